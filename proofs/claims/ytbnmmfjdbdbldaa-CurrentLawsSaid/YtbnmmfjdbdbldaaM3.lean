/-
  CurrentLaws returns true at every input, and its arguments read behind the call as they read before; no condition. Part 3 of 5.
-/
import Derived.Test.YtbnmmfjdbdbldaaM2
import Derived.Test.YtbnmmfjdbdbldaaProg
import Derived.IntWalk

/-
  The elements and objects of this seat, and how they lie in cells.
-/
namespace Go.Proofs.Ytbnmmfjdbdbldaa
open Go.Abs


structure Vintage where
  Origin : Int
  Expiry : Int
  Left : Int
  deriving DecidableEq

structure Result where
  Income : Int
  Expired : Int
  Used : Int
  New : Int
  Taxable : Int
  Tax : Int
  Vector : List Int
  deriving DecidableEq

structure LossesO where
  l : List Vintage

structure RLossesO where
  V : List Vintage

inductive Tg
  | int
  | vintage
  | result
  | losses
  | rlosses
  deriving DecidableEq

abbrev Elt : Tg → Type
  | .int => Int
  | .vintage => Vintage
  | .result => Result
  | .losses => LossesO
  | .rlosses => RLossesO

instance dom : Dom := ⟨Tg, inferInstance, Elt⟩

instance cod : Coding where
  tagOf T := bif Nat.beq T 3 then some .int else bif Nat.beq T 41 then some .vintage else bif Nat.beq T 29 then some .result else none
  k t := match t with
    | .int => 1
    | .vintage => 3
    | .result => 7
    | .losses => 1
    | .rlosses => 1
  kinds t := match t with
    | .int => [.flat]
    | .vintage => [.flat, .flat, .flat]
    | .result => [.flat, .flat, .flat, .flat, .flat, .flat, .sl .int]
    | .losses => [.flat]
    | .rlosses => [.flat]
  enc t := match t with
    | .int => fun (x : Int) => [.v (.int .i64 x)]
    | .vintage => fun (x : Vintage) => [.v (.int .i64 x.Origin), .v (.int .i64 x.Expiry), .v (.int .i64 x.Left)]
    | .result => fun (x : Result) => [.v (.int .i64 x.Income), .v (.int .i64 x.Expired), .v (.int .i64 x.Used), .v (.int .i64 x.New), .v (.int .i64 x.Taxable), .v (.int .i64 x.Tax), .imm .int x.Vector]
    | .losses => fun (_ : LossesO) => [.v (.bool false)]
    | .rlosses => fun (_ : RLossesO) => [.v (.bool false)]
  dec t := match t with
    | .int => fun cs => match cs with | [.v (.int .i64 a0)] => some (a0 : Int) | _ => none
    | .vintage => fun cs => match cs with | [.v (.int .i64 a0), .v (.int .i64 a1), .v (.int .i64 a2)] => some (⟨a0, a1, a2⟩ : Vintage) | _ => none
    | .result => fun cs => match cs with | [.v (.int .i64 a0), .v (.int .i64 a1), .v (.int .i64 a2), .v (.int .i64 a3), .v (.int .i64 a4), .v (.int .i64 a5), .imm .int a6] => some (⟨a0, a1, a2, a3, a4, a5, a6⟩ : Result) | _ => none
    | .losses => fun _ => none
    | .rlosses => fun _ => none
  eqT T := false

instance obj : Objs where
  mkinds t := match t with
    | .int => [.flat .flat]
    | .vintage => [.flat .flat]
    | .result => [.flat .flat]
    | .losses => [.arr .vintage]
    | .rlosses => [.arr .vintage]
  menc t := match t with
    | .int => fun (_ : Int) => [.av (.v (.bool false))]
    | .vintage => fun (_ : Vintage) => [.av (.v (.bool false))]
    | .result => fun (_ : Result) => [.av (.v (.bool false))]
    | .losses => fun (x : LossesO) => [.arr .vintage x.l]
    | .rlosses => fun (x : RLossesO) => [.arr .vintage x.V]
  mdec t := match t with
    | .int => fun _ => none
    | .vintage => fun _ => none
    | .result => fun _ => none
    | .losses => fun ms => match ms with | [.arr .vintage a0] => some (⟨a0⟩ : LossesO) | _ => none
    | .rlosses => fun ms => match ms with | [.arr .vintage a0] => some (⟨a0⟩ : RLossesO) | _ => none

def tagFits (P : Program) (T k : Nat) : Bool := match P.info? T with
  | some i => match i.zero with
    | some z => Nat.beq z.cells.size i.size && Nat.beq i.size k
    | none => false
  | none => false

theorem tagFits_spec {P : Program} {T k : Nat} (h : tagFits P T k = true) : ∃ i z, P.info? T = some i ∧ i.zero = some z ∧ z.cells.size = i.size ∧ i.size = k := by
  unfold tagFits at h
  split at h
  · rename_i i hi
    split at h
    · rename_i z hz
      simp only [Bool.and_eq_true] at h
      exact ⟨i, z, hi, hz, Nat.eq_of_beq_eq_true h.1, Nat.eq_of_beq_eq_true h.2⟩
    · simp at h
  · simp at h

def eqFits (P : Program) (T : Nat) : Bool := !P.stoodInHeld T && !P.eqGuardType P.depth T && (match P.underlying T with
  | some (.struct fs) => fs.toList.all fun f => !(f.name == "_")
  | _ => true)

theorem eqFits_spec {P : Program} {T : Nat} (h : eqFits P T = true) (fs : Array Field) (hu : P.underlying T = some (.struct fs)) : P.stoodInHeld T = false ∧ P.eqGuardType P.depth T = false ∧ ∀ f ∈ fs.toList, f.name ≠ "_" := by
  unfold eqFits at h
  rw [hu] at h
  simp only [Bool.and_eq_true, Bool.not_eq_true', List.all_eq_true] at h
  exact ⟨h.1.1, h.1.2, fun f hf => by simpa using h.2 f hf⟩


theorem cod_tag (T : Nat) (t : Tg) (h : cod.tagOf T = some t) : ∃ i z, Try.prog.info? T = some i ∧ i.zero = some z ∧ z.cells.size = i.size ∧ i.size = cod.k t := by
  simp only [Coding.tagOf, Coding.eqT, Coding.dec, cod] at h
  cases hb0 : Nat.beq T 3 <;> rw [hb0] at h
  · simp only [cond_false] at h
    cases hb1 : Nat.beq T 41 <;> rw [hb1] at h
    · simp only [cond_false] at h
      cases hb2 : Nat.beq T 29 <;> rw [hb2] at h
      · simp only [cond_false] at h
        simp at h
      · simp only [cond_true, Option.some.injEq] at h
        subst h
        have := Nat.eq_of_beq_eq_true hb2
        subst this
        exact tagFits_spec (show tagFits Try.prog 29 7 = true by kernel_rfl)
    · simp only [cond_true, Option.some.injEq] at h
      subst h
      have := Nat.eq_of_beq_eq_true hb1
      subst this
      exact tagFits_spec (show tagFits Try.prog 41 3 = true by kernel_rfl)
  · simp only [cond_true, Option.some.injEq] at h
    subst h
    have := Nat.eq_of_beq_eq_true hb0
    subst this
    exact tagFits_spec (show tagFits Try.prog 3 1 = true by kernel_rfl)


theorem cod_eqT (T : Nat) (fs : Array Field) (h : cod.eqT T = true) (hu : Try.prog.underlying T = some (.struct fs)) : Try.prog.stoodInHeld T = false ∧ Try.prog.eqGuardType Try.prog.depth T = false ∧ ∀ f ∈ fs.toList, f.name ≠ "_" := by
  simp only [Coding.tagOf, Coding.eqT, Coding.dec, cod] at h
  simp at h


instance lawful : Lawful Try.prog where
  enc_len t x := by cases t <;> rfl
  dec_enc t cs x h := by
    cases t <;> simp only [Coding.tagOf, Coding.eqT, Coding.dec, cod] at h <;> first | (split at h <;> first | (simp only [Option.some.injEq] at h; subst h; rfl) | simp at h) | simp at h
  enc_free t x := by cases t <;> rfl
  kpos t := by cases t <;> decide
  eqT := cod_eqT
  tag := cod_tag

theorem lawfulO : LawfulO (O := obj) where
  mdec_menc t ms x h := by
    cases t <;> simp only [Objs.mdec, obj] at h <;> first | (split at h <;> first | (simp only [Option.some.injEq] at h; subst h; rfl) | simp at h) | simp at h

theorem mixed : Try.prog.follows .mixedOrders = true := by kernel_rfl
end Go.Proofs.Ytbnmmfjdbdbldaa

/-
  What the functions compute, in plain Lean.
-/
namespace Go.Proofs.Ytbnmmfjdbdbldaa
open Go.Abs

/-- How often loops are gone through at most. -/
def fu0 : Nat → Nat → Nat := fun _ _ => 1099511627776
def money (n : Int) : Bool := decide (n ≥ -100000000000) && decide (n ≤ 100000000000)
def rightR (n : Int) : Bool := decide (n ≥ 0) && decide (n ≤ 1000000)
def yearR (n : Int) : Bool := decide (n ≥ 0) && decide (n ≤ 99)
def small (n : Int) : Bool := decide (-1000000000000 ≤ n) && decide (n ≤ 1000000000000)
def i64 (n : Int) : Bool := decide (-9223372036854775808 ≤ n) && decide (n ≤ 9223372036854775807)
def sumI (l : List Int) : Int := l.sum
def allSmall (l : List Int) : Bool := l.all small
def allI64 (l : List Int) : Bool := l.all i64
def within (v n : Int) : Int := if n < 1 then 0 else v % n
def rightV (o e : Int) : Bool := decide (o ≥ 0) && decide (o ≤ 99) && decide (e ≥ o) && decide (e ≤ 198)
def amount (n : Int) : Int :=
  let k := Int.tmod n 23
  let q := Int.tdiv n 23
  if k = 20 then 100000000000 - within q 5 + 2
  else if k = 21 then -100000000000 + within q 5 - 2
  else if k = 22 then n
  else if k = 19 then within q 200000000001 - 100000000000
  else within n 4001 - 2000
/-- A part of an amount, rounded. -/
def part (n r : Int) : Int := if n < 0 then Int.tdiv (2 * n * r - 1000000) 2000000 else Int.tdiv (2 * n * r + 1000000) 2000000
def ofOK (n r : Int) : Bool := decide (n ≥ -400000000000) && decide (n ≤ 400000000000) && decide (r ≥ 0) && decide (r ≤ 10000000)
def floorOK (n r : Int) : Bool := money n && decide (n ≥ 0) && rightR r
def floorP (n r : Int) : Int := Int.tdiv (n * r) 1000000
def sumOK (l : List Int) : Bool := l.all money && money l.sum
def incomeOK (book perm moved : Int) : Bool := money moved && money book && money perm && money (book + perm - moved)
def incomeP (book perm moved : Int) : Int := book + perm - moved
def roomP (income most : Int) : Int := if income < 1 then 0 else if floorOK income most then floorP income most else 0

/-! losses -/
def left (l : List Vintage) : Int := (l.map (·.Left)).sum
def sameKey (o e : Int) (v : Vintage) : Bool := decide (v.Origin = o) && decide (v.Expiry = e)
def distinct : List Vintage → Bool
  | [] => true
  | v :: l => !l.any (sameKey v.Origin v.Expiry) && distinct l
def ltV (a b : Vintage) : Bool := decide (a.Expiry < b.Expiry) || decide (a.Expiry = b.Expiry) && decide (a.Origin < b.Origin)
def sortedL : List Vintage → Bool
  | [] => true
  | v :: l => l.all (ltV v) && sortedL l
/-- Losses that may be. -/
def wfL (l : List Vintage) : Bool := decide (l.length ≤ 12) && l.all (fun v => decide (0 ≤ v.Left) && decide (v.Left ≤ 100000000000)) && decide (left l ≤ 100000000000) && sortedL l
def gone (l : List Vintage) (year : Int) : Int := left (l.takeWhile fun v => decide (v.Expiry < year))
def still (l : List Vintage) (year : Int) : List Vintage := l.dropWhile fun v => decide (v.Expiry < year)
def leV (a b : Vintage) : Bool := decide (a.Expiry < b.Expiry) || decide (a.Expiry = b.Expiry) && decide (a.Origin ≤ b.Origin)
def sortV (l : List Vintage) : List Vintage := l.mergeSort leV
def isLeft (v : Vintage) : Bool := !decide (v.Left = 0)
def filterL (l : List Vintage) : List Vintage := l.filter isLeft
def addTo (l : List Vintage) (o e n : Int) : List Vintage := l.map fun v => if sameKey o e v then ⟨v.Origin, v.Expiry, v.Left + n⟩ else v
def addE (l : List Vintage) (o e n : Int) : Int :=
  if !rightV o e || decide (n < 1) || !money n then 1
  else if !money (left l + n) then 6
  else if l.any (sameKey o e) then 0
  else if l.length ≥ 12 then 5
  else 0
def addP (l : List Vintage) (o e n : Int) : List Vintage :=
  if addE l o e n = 0 then (if l.any (sameKey o e) then addTo l o e n else sortV (l ++ [⟨o, e, n⟩])) else l
def vecStep (year : Int) (a : Int × List Int) (v : Vintage) : Int × List Int :=
  let n := if v.Expiry ≥ year then min v.Left a.1 else 0
  (a.1 - n, a.2 ++ [n])
def vector (rows : List Vintage) (year room : Int) : List Int := (rows.foldl (vecStep year) (max 0 room, [])).2
def takeOK (l : List Vintage) (used : List Int) : Bool := decide (used.length = l.length) && (l.zip used).all fun p => decide (0 ≤ p.2) && decide (p.2 ≤ p.1.Left)
def takeP (l : List Vintage) (used : List Int) : List Vintage := ((l.zip used).map fun p => (⟨p.1.Origin, p.1.Expiry, p.1.Left - p.2⟩ : Vintage)).filter isLeft

/-! the document's losses -/
def insStep (o e n : Int) (a : List Vintage × Bool) (v : Vintage) : List Vintage × Bool :=
  if sameKey o e v then (a.1 ++ [⟨v.Origin, v.Expiry, v.Left + n⟩], true)
  else if !a.2 && (decide (v.Expiry > e) || decide (v.Expiry = e) && decide (v.Origin > o)) then (a.1 ++ [⟨o, e, n⟩] ++ [v], true)
  else (a.1 ++ [v], a.2)
def ins (l : List Vintage) (o e n : Int) : List Vintage :=
  let a := l.foldl (insStep o e n) ([], false)
  if a.2 then a.1 else a.1 ++ [⟨o, e, n⟩]
def addRE (l : List Vintage) (o e n : Int) : Int :=
  if !yearR o || decide (e < o) || decide (e > 198) || decide (n < 1) || decide (n > 100000000000) then 1
  else if left l + n > 100000000000 then 6
  else if (ins l o e n).length > 12 then 5
  else 0
def addR (l : List Vintage) (o e n : Int) : List Vintage := if addRE l o e n = 0 then ins l o e n else l
def lossesStep (l : List Vintage) (x : Int) : List Vintage :=
  let o := within x 5
  addR l o (o + within (Int.tdiv x 5) 5) (max (amount (Int.tdiv x 25)) 1)
def lossesR (l : List Int) : List Vintage := (l.take 8).foldl lossesStep []
def ofStep (a : List Vintage × Bool) (v : Vintage) : List Vintage × Bool := if a.2 && decide (addE a.1 v.Origin v.Expiry v.Left = 0) then (addP a.1 v.Origin v.Expiry v.Left, true) else (a.1, false)
def ofL (x : List Vintage) : Bool := (x.foldl ofStep ([], true)).2
def ofP (x : List Vintage) : List Vintage := (x.foldl ofStep ([], true)).1

/-! the tax of a period -/
def taxE (l : List Vintage) (book perm moved most life year r : Int) : Int :=
  if !rightR most || !rightR r || !yearR life || !yearR year then 1
  else if !incomeOK book perm moved then 6
  else if incomeP book perm moved < 0 then addE (still l year) year (year + life) (-(incomeP book perm moved))
  else 0
def taxV (l : List Vintage) (income most year : Int) : List Int := if income > 0 then vector (still l year) year (roomP income most) else []
def taxNew (income : Int) : Int := if income < 0 then -income else 0
def taxable (l : List Vintage) (income most year : Int) : Int := income - (taxV l income most year).sum + taxNew income
def taxR (l : List Vintage) (book perm moved most _life year r : Int) : Result :=
  let income := incomeP book perm moved
  ⟨income, gone l year, (taxV l income most year).sum, taxNew income, taxable l income most year, if ofOK (taxable l income most year) r then part (taxable l income most year) r else 0, taxV l income most year⟩
def taxL (l : List Vintage) (book perm moved most life year _r : Int) : List Vintage :=
  let income := incomeP book perm moved
  if income > 0 then (if takeOK (still l year) (taxV l income most year) then takeP (still l year) (taxV l income most year) else still l year)
  else if income < 0 then addP (still l year) year (year + life) (-income)
  else still l year

end Go.Proofs.Ytbnmmfjdbdbldaa

/-
  The functions' contracts.
-/
namespace Go.Proofs.Ytbnmmfjdbdbldaa
open Go.Abs

-- scutage/rate.Money
def m28 : List Abs.Mode := [.val false [.flat]]
def r28 : List Abs.Mode := [.val false [.flat]]
def c28 : Ctr where
  modes := m28
  pre ms := match ms with
    | [.av (.v (.int .i64 n))] => true
    | _ => false
  t ms := match ms with
    | [.av (.v (.int .i64 n))] => .ret ([.av (.v (.bool (money n)))], [.av (.v undef)])
    | _ => .ret ([], [])

-- scutage/rate.Right
def m14 : List Abs.Mode := [.val false [.flat]]
def r14 : List Abs.Mode := [.val false [.flat]]
def c14 : Ctr where
  modes := m14
  pre ms := match ms with
    | [.av (.v (.int .i64 n))] => true
    | _ => false
  t ms := match ms with
    | [.av (.v (.int .i64 n))] => .ret ([.av (.v (.bool (rightR n)))], [.av (.v undef)])
    | _ => .ret ([], [])

-- scutage/scutagekeep.Within
def m6 : List Abs.Mode := [.val false [.flat], .val false [.flat]]
def r6 : List Abs.Mode := [.val false [.flat]]
def c6 : Ctr where
  modes := m6
  pre ms := match ms with
    | [.av (.v (.int .i64 v)), .av (.v (.int .i64 n))] => decide (n ≤ 1000000000000)
    | _ => false
  t ms := match ms with
    | [.av (.v (.int .i64 v)), .av (.v (.int .i64 n))] => .ret ([.av (.v (.int .i64 (within v n)))], [.av (.v undef), .av (.v undef)])
    | _ => .ret ([], [])

-- (*scutage/vintage.Losses).Left
def m9 : List Abs.Mode := [.own .losses]
def r9 : List Abs.Mode := [.val false [.flat]]
def c9 : Ctr where
  modes := m9
  pre ms := match ms with
    | [.ptr .losses l] => wfL l.l
    | _ => false
  t ms := match ms with
    | [.ptr .losses l] => .ret ([.av (.v (.int .i64 (left l.l)))], [.ptr .losses l])
    | _ => .ret ([], [])

-- scutage/vintage.New
def m10 : List Abs.Mode := []
def r10 : List Abs.Mode := [.own .losses]
def c10 : Ctr where
  modes := m10
  pre ms := match ms with | [] => true | _ => false
  t _ := .ret ([.ptr .losses (LossesO.mk ([] : List Vintage))], [])

-- scutage/current.right
def m15 : List Abs.Mode := [.val false [.flat]]
def r15 : List Abs.Mode := [.val false [.flat]]
def c15 : Ctr where
  modes := m15
  pre ms := match ms with
    | [.av (.v (.int .i64 y))] => true
    | _ => false
  t ms := match ms with
    | [.av (.v (.int .i64 y))] => .ret ([.av (.v (.bool (yearR y)))], [.av (.v undef)])
    | _ => .ret ([], [])

-- scutage/scutageref09.Year
def m33 : List Abs.Mode := [.val false [.flat]]
def r33 : List Abs.Mode := [.val false [.flat]]
def c33 : Ctr where
  modes := m33
  pre ms := match ms with
    | [.av (.v (.int .i64 y))] => true
    | _ => false
  t ms := match ms with
    | [.av (.v (.int .i64 y))] => .ret ([.av (.v (.bool (yearR y)))], [.av (.v undef)])
    | _ => .ret ([], [])

-- scutage/vintage.right
def m27 : List Abs.Mode := [.val false [.flat], .val false [.flat]]
def r27 : List Abs.Mode := [.val false [.flat]]
def c27 : Ctr where
  modes := m27
  pre ms := match ms with
    | [.av (.v (.int .i64 o)), .av (.v (.int .i64 e))] => true
    | _ => false
  t ms := match ms with
    | [.av (.v (.int .i64 o)), .av (.v (.int .i64 e))] => .ret ([.av (.v (.bool (rightV o e)))], [.av (.v undef), .av (.v undef)])
    | _ => .ret ([], [])

-- scutage/scutageplay.Amount
def m13 : List Abs.Mode := [.val false [.flat]]
def r13 : List Abs.Mode := [.val false [.flat]]
def c13 : Ctr where
  modes := m13
  pre ms := match ms with
    | [.av (.v (.int .i64 n))] => decide (-9223372036854775808 ≤ n) && decide (n ≤ 9223372036854775807)
    | _ => false
  t ms := match ms with
    | [.av (.v (.int .i64 n))] => .ret ([.av (.v (.int .i64 (amount n)))], [.av (.v undef)])
    | _ => .ret ([], [])

-- scutage/rate.Of
def m24 : List Abs.Mode := [.val false [.flat], .val false [.flat]]
def r24 : List Abs.Mode := [.val false [.flat], .val false [.flat]]
def c24 : Ctr where
  modes := m24
  pre ms := match ms with
    | [.av (.v (.int .i64 n)), .av (.v (.int .i64 r))] => true
    | _ => false
  t ms := match ms with
    | [.av (.v (.int .i64 n)), .av (.v (.int .i64 r))] => .br (ofOK n r) (.ret ([.av (.v (.int .i64 (part n r))), .av (.v (.bool true))], [.av (.v undef), .av (.v undef)])) (.ret ([.av (.v (.int .i64 (0 : Int))), .av (.v (.bool false))], [.av (.v undef), .av (.v undef)]))
    | _ => .ret ([], [])

-- scutage/rate.Floor
def m37 : List Abs.Mode := [.val false [.flat], .val false [.flat]]
def r37 : List Abs.Mode := [.val false [.flat], .val false [.flat]]
def c37 : Ctr where
  modes := m37
  pre ms := match ms with
    | [.av (.v (.int .i64 n)), .av (.v (.int .i64 r))] => true
    | _ => false
  t ms := match ms with
    | [.av (.v (.int .i64 n)), .av (.v (.int .i64 r))] => .br (floorOK n r) (.ret ([.av (.v (.int .i64 (floorP n r))), .av (.v (.bool true))], [.av (.v undef), .av (.v undef)])) (.ret ([.av (.v (.int .i64 (0 : Int))), .av (.v (.bool false))], [.av (.v undef), .av (.v undef)]))
    | _ => .ret ([], [])

-- scutage/rate.Sum
def m35 : List Abs.Mode := [.val false [.sl .int]]
def r35 : List Abs.Mode := [.val false [.flat], .val false [.flat]]
def c35 : Ctr where
  modes := m35
  pre ms := match ms with
    | [.av (.imm .int l)] => decide (l.length ≤ 1000)
    | _ => false
  t ms := match ms with
    | [.av (.imm .int l)] => .br (sumOK l) (.ret ([.av (.v (.int .i64 (sumI l))), .av (.v (.bool true))], [.av (.v undef)])) (.ret ([.av (.v (.int .i64 (0 : Int))), .av (.v (.bool false))], [.av (.v undef)]))
    | _ => .ret ([], [])

-- scutage/bridge.Income
def m16 : List Abs.Mode := [.val false [.flat], .val false [.flat], .val false [.flat]]
def r16 : List Abs.Mode := [.val false [.flat], .val false [.flat]]
def c16 : Ctr where
  modes := m16
  pre ms := match ms with
    | [.av (.v (.int .i64 book)), .av (.v (.int .i64 perm)), .av (.v (.int .i64 moved))] => true
    | _ => false
  t ms := match ms with
    | [.av (.v (.int .i64 book)), .av (.v (.int .i64 perm)), .av (.v (.int .i64 moved))] => .br (incomeOK book perm moved) (.ret ([.av (.v (.int .i64 (incomeP book perm moved))), .av (.v (.bool true))], [.av (.v undef), .av (.v undef), .av (.v undef)])) (.ret ([.av (.v (.int .i64 (0 : Int))), .av (.v (.bool false))], [.av (.v undef), .av (.v undef), .av (.v undef)]))
    | _ => .ret ([], [])

-- slices.Clone[[]scutage/api.Vintage,scutage/api.Vintage]
def m36 : List Abs.Mode := [.row .vintage]
def r36 : List Abs.Mode := [.mov .vintage]
def c36 : Ctr where
  modes := m36
  pre ms := match ms with
    | [.arr .vintage s] => decide (s.length ≤ 1000)
    | _ => false
  t ms := match ms with
    | [.arr .vintage s] => .ret ([.arr .vintage s], [.arr .vintage s])
    | _ => .ret ([], [])

-- (*scutage/vintage.Losses).Rows
def m20 : List Abs.Mode := [.own .losses]
def r20 : List Abs.Mode := [.mov .vintage]
def c20 : Ctr where
  modes := m20
  pre ms := match ms with
    | [.ptr .losses l] => wfL l.l
    | _ => false
  t ms := match ms with
    | [.ptr .losses l] => .ret ([.arr .vintage l.l], [.ptr .losses l])
    | _ => .ret ([], [])

-- (*scutage/vintage.Losses).Clone
def m17 : List Abs.Mode := [.own .losses]
def r17 : List Abs.Mode := [.own .losses]
def c17 : Ctr where
  modes := m17
  pre ms := match ms with
    | [.ptr .losses l] => wfL l.l
    | _ => false
  t ms := match ms with
    | [.ptr .losses l] => .ret ([.ptr .losses (LossesO.mk l.l)], [.ptr .losses l])
    | _ => .ret ([], [])

-- (*scutage/vintage.Losses).Expire
def m18 : List Abs.Mode := [.own .losses, .val false [.flat]]
def r18 : List Abs.Mode := [.val false [.flat]]
def c18 : Ctr where
  modes := m18
  pre ms := match ms with
    | [.ptr .losses l, .av (.v (.int .i64 year))] => wfL l.l
    | _ => false
  t ms := match ms with
    | [.ptr .losses l, .av (.v (.int .i64 year))] => .ret ([.av (.v (.int .i64 (gone l.l year)))], [.ptr .losses (LossesO.mk (still l.l year)), .av (.v undef)])
    | _ => .ret ([], [])

-- scutage/use.Vector
def m19 : List Abs.Mode := [.val false [.sl .vintage], .val false [.flat], .val false [.flat]]
def r19 : List Abs.Mode := [.val false [.sl .int]]
def c19 : Ctr where
  modes := m19
  pre ms := match ms with
    | [.av (.imm .vintage rows), .av (.v (.int .i64 year)), .av (.v (.int .i64 room))] => wfL rows && decide (room ≤ 1000000000000)
    | _ => false
  t ms := match ms with
    | [.av (.imm .vintage rows), .av (.v (.int .i64 year)), .av (.v (.int .i64 room))] => .ret ([.av (.imm .int (vector rows year room))], [.av (.v undef), .av (.v undef), .av (.v undef)])
    | _ => .ret ([], [])

-- scutage/use.Room
def m21 : List Abs.Mode := [.val false [.flat], .val false [.flat]]
def r21 : List Abs.Mode := [.val false [.flat]]
def c21 : Ctr where
  modes := m21
  pre ms := match ms with
    | [.av (.v (.int .i64 income)), .av (.v (.int .i64 most))] => true
    | _ => false
  t ms := match ms with
    | [.av (.v (.int .i64 income)), .av (.v (.int .i64 most))] => .ret ([.av (.v (.int .i64 (roomP income most)))], [.av (.v undef), .av (.v undef)])
    | _ => .ret ([], [])

-- scutage/use.Used
def m22 : List Abs.Mode := [.val false [.sl .int]]
def r22 : List Abs.Mode := [.val false [.flat]]
def c22 : Ctr where
  modes := m22
  pre ms := match ms with
    | [.av (.imm .int v)] => decide (v.length ≤ 1000) && allSmall v
    | _ => false
  t ms := match ms with
    | [.av (.imm .int v)] => .ret ([.av (.v (.int .i64 (sumI v)))], [.av (.v undef)])
    | _ => .ret ([], [])

-- slices.DeleteFunc[[]scutage/api.Vintage,scutage/api.Vintage]
def m38 : List Abs.Mode := [.mov .vintage, .val false [.flat]]
def r38 : List Abs.Mode := [.mov .vintage]
def c38 : Ctr where
  modes := m38
  pre ms := match ms with
    | [.arr .vintage s, .av (.fn 39 [])] => decide (s.length ≤ 1000)
    | _ => false
  t ms := match ms with
    | [.arr .vintage s, .av (.fn 39 [])] => .ret ([.arr .vintage (filterL s)], [.av (.v undef), .av (.v undef)])
    | _ => .ret ([], [])

-- (*scutage/vintage.Losses).Take
def m23 : List Abs.Mode := [.own .losses, .val false [.sl .int]]
def r23 : List Abs.Mode := [.val false [.flat]]
def c23 : Ctr where
  modes := m23
  pre ms := match ms with
    | [.ptr .losses l, .av (.imm .int used)] => wfL l.l && decide (used.length ≤ 1000)
    | _ => false
  t ms := match ms with
    | [.ptr .losses l, .av (.imm .int used)] => .br (takeOK l.l used) (.ret ([.av (.v (.int .i64 (0 : Int)))], [.ptr .losses (LossesO.mk (takeP l.l used)), .av (.v undef)])) (.ret ([.av (.v (.int .i64 (1 : Int)))], [.ptr .losses l, .av (.v undef)]))
    | _ => .ret ([], [])

-- slices.SortFunc[[]scutage/api.Vintage,scutage/api.Vintage]
def m29 : List Abs.Mode := [.row .vintage, .val false [.flat]]
def r29 : List Abs.Mode := []
def c29 : Ctr where
  modes := m29
  pre ms := match ms with
    | [.arr .vintage s, .av (.fn 30 [])] => decide (s.length ≤ 1000) && distinct s
    | _ => false
  t ms := match ms with
    | [.arr .vintage s, .av (.fn 30 [])] => .ret ([], [.arr .vintage (sortV s), .av (.v undef)])
    | _ => .ret ([], [])

-- (*scutage/vintage.Losses).Add
def m11 : List Abs.Mode := [.own .losses, .val false [.flat], .val false [.flat], .val false [.flat]]
def r11 : List Abs.Mode := [.val false [.flat]]
def c11 : Ctr where
  modes := m11
  pre ms := match ms with
    | [.ptr .losses l, .av (.v (.int .i64 o)), .av (.v (.int .i64 e)), .av (.v (.int .i64 n))] => wfL l.l
    | _ => false
  t ms := match ms with
    | [.ptr .losses l, .av (.v (.int .i64 o)), .av (.v (.int .i64 e)), .av (.v (.int .i64 n))] => .ret ([.av (.v (.int .i64 (addE l.l o e n)))], [.ptr .losses (LossesO.mk (addP l.l o e n)), .av (.v undef), .av (.v undef), .av (.v undef)])
    | _ => .ret ([], [])

-- (*scutage/scutageref09.Losses).Left
def m34 : List Abs.Mode := [.own .rlosses]
def r34 : List Abs.Mode := [.val false [.flat]]
def c34 : Ctr where
  modes := m34
  pre ms := match ms with
    | [.ptr .rlosses l] => wfL l.V
    | _ => false
  t ms := match ms with
    | [.ptr .rlosses l] => .ret ([.av (.v (.int .i64 (left l.V)))], [.ptr .rlosses l])
    | _ => .ret ([], [])

-- (*scutage/scutageref09.Losses).Add
def m12 : List Abs.Mode := [.own .rlosses, .val false [.flat], .val false [.flat], .val false [.flat]]
def r12 : List Abs.Mode := [.val false [.flat]]
def c12 : Ctr where
  modes := m12
  pre ms := match ms with
    | [.ptr .rlosses l, .av (.v (.int .i64 o)), .av (.v (.int .i64 e)), .av (.v (.int .i64 n))] => wfL l.V
    | _ => false
  t ms := match ms with
    | [.ptr .rlosses l, .av (.v (.int .i64 o)), .av (.v (.int .i64 e)), .av (.v (.int .i64 n))] => .ret ([.av (.v (.int .i64 (addRE l.V o e n)))], [.ptr .rlosses (RLossesO.mk (addR l.V o e n)), .av (.v undef), .av (.v undef), .av (.v undef)])
    | _ => .ret ([], [])

-- scutage/scutageplay.Losses
def m5 : List Abs.Mode := [.val false [.sl .int]]
def r5 : List Abs.Mode := [.own .rlosses]
def c5 : Ctr where
  modes := m5
  pre ms := match ms with
    | [.av (.imm .int l)] => allI64 l
    | _ => false
  t ms := match ms with
    | [.av (.imm .int l)] => .ret ([.ptr .rlosses (RLossesO.mk (lossesR l))], [.av (.v undef)])
    | _ => .ret ([], [])

-- scutage/scutagelaw13.Of
def m4 : List Abs.Mode := [.own .rlosses]
def r4 : List Abs.Mode := [.own .losses]
def c4 : Ctr where
  modes := m4
  pre ms := match ms with
    | [.ptr .rlosses x] => wfL x.V
    | _ => false
  t ms := match ms with
    | [.ptr .rlosses x] => .br (ofL x.V) (.ret ([.ptr .losses (LossesO.mk (ofP x.V))], [.ptr .rlosses x])) (.ret ([.av (.v (.pointer none))], [.ptr .rlosses x]))
    | _ => .ret ([], [])

-- scutage/current.Tax
def m7 : List Abs.Mode := [.own .losses, .val false [.flat], .val false [.flat], .val false [.flat], .val false [.flat], .val false [.flat], .val false [.flat], .val false [.flat]]
def r7 : List Abs.Mode := [.val true [.flat, .flat, .flat, .flat, .flat, .flat, .sl .int], .own .losses, .val false [.flat]]
def c7 : Ctr where
  modes := m7
  pre ms := match ms with
    | [.ptr .losses l, .av (.v (.int .i64 book)), .av (.v (.int .i64 perm)), .av (.v (.int .i64 moved)), .av (.v (.int .i64 most)), .av (.v (.int .i64 life)), .av (.v (.int .i64 year)), .av (.v (.int .i64 r))] => wfL l.l
    | _ => false
  t ms := match ms with
    | [.ptr .losses l, .av (.v (.int .i64 book)), .av (.v (.int .i64 perm)), .av (.v (.int .i64 moved)), .av (.v (.int .i64 most)), .av (.v (.int .i64 life)), .av (.v (.int .i64 year)), .av (.v (.int .i64 r))] => .br (decide (taxE l.l book perm moved most life year r = 0)) (.ret ([.av (.agg [.v (.int .i64 (taxR l.l book perm moved most life year r).Income), .v (.int .i64 (taxR l.l book perm moved most life year r).Expired), .v (.int .i64 (taxR l.l book perm moved most life year r).Used), .v (.int .i64 (taxR l.l book perm moved most life year r).New), .v (.int .i64 (taxR l.l book perm moved most life year r).Taxable), .v (.int .i64 (taxR l.l book perm moved most life year r).Tax), .imm .int (taxR l.l book perm moved most life year r).Vector]), .ptr .losses (LossesO.mk (taxL l.l book perm moved most life year r)), .av (.v (.int .i64 (0 : Int)))], [.ptr .losses l, .av (.v undef), .av (.v undef), .av (.v undef), .av (.v undef), .av (.v undef), .av (.v undef), .av (.v undef)])) (.ret ([.av (.agg [.v (.int .i64 (0 : Int)), .v (.int .i64 (0 : Int)), .v (.int .i64 (0 : Int)), .v (.int .i64 (0 : Int)), .v (.int .i64 (0 : Int)), .v (.int .i64 (0 : Int)), .imm .int ([] : List Int)]), .av (.v (.pointer none)), .av (.v (.int .i64 (taxE l.l book perm moved most life year r)))], [.ptr .losses l, .av (.v undef), .av (.v undef), .av (.v undef), .av (.v undef), .av (.v undef), .av (.v undef), .av (.v undef)]))
    | _ => .ret ([], [])

-- scutage/scutagelaw15.wakes
def m8 : List Abs.Mode := []
def r8 : List Abs.Mode := [.val false [.flat]]
def c8 : Ctr where
  modes := m8
  pre ms := match ms with | [] => true | _ => false
  t _ := .ret ([.av (.v (.bool true))], [])

-- scutage/scutagelaw15.CurrentLaws
def m3 : List Abs.Mode := [.val false [.sl .int], .val false [.flat], .val false [.flat], .val false [.flat], .val false [.flat], .val false [.flat], .val false [.flat], .val false [.flat]]
def r3 : List Abs.Mode := [.val false [.flat]]
def c3 : Ctr where
  modes := m3
  pre ms := match ms with
    | [.av (.imm .int l), .av (.v (.int .i64 book)), .av (.v (.int .i64 perm)), .av (.v (.int .i64 moved)), .av (.v (.int .i64 cap)), .av (.v (.int .i64 life)), .av (.v (.int .i64 year)), .av (.v (.int .i64 r))] => allI64 l
    | _ => false
  t ms := match ms with
    | [.av (.imm .int l), .av (.v (.int .i64 book)), .av (.v (.int .i64 perm)), .av (.v (.int .i64 moved)), .av (.v (.int .i64 cap)), .av (.v (.int .i64 life)), .av (.v (.int .i64 year)), .av (.v (.int .i64 r))] => .ret ([.av (.v (.bool true))], [.av (.v undef), .av (.v undef), .av (.v undef), .av (.v undef), .av (.v undef), .av (.v undef), .av (.v undef), .av (.v undef)])
    | _ => .ret ([], [])

end Go.Proofs.Ytbnmmfjdbdbldaa

/-
  Functions, gone through in pieces.
-/
namespace Go.Proofs.Ytbnmmfjdbdbldaa
open Go.Abs

-- scutage/rate.Money
noncomputable def cfg28 (fu : Nat → Nat → Nat) : Cfg where
  P := Try.prog
  Γ := lookC []
  ann := fun g => bif Nat.beq g 28 then ⟨fu 28, fun k => []⟩ else ⟨fu g, fun _ => []⟩
  inl := []
theorem e28 (fu : Nat → Nat → Nat) (n : Int) : (cfg28 fu).runF 3 28 m28 r28 [.av (.v (.int .i64 n))] =
    bif (decide (n ≥ (-100000000000 : Int))) then
    some ([.av (.v (.bool (decide (n ≤ (100000000000 : Int)))))], [.av (.v undef)])
    else
    some ([.av (.v (.bool false))], [.av (.v undef)]) := by
  kernel_rfl
def Said28 : Prop := ∀ (n : Int) , true = true → (cfg28 fu0).runF 3 28 m28 r28 [.av (.v (.int .i64 n))] = some (([.av (.v (.bool (money n)))], [.av (.v undef)]) : List MC × List MC)
theorem good28 (hΓ : AllGood Try.prog (cfg28 fu0).Γ) (h : Said28) : Good Try.prog 28 c28 := by
  refine (cfg28 fu0).good (d := 3) (r := r28) lawful lawfulO mixed hΓ (by kernel_rfl) fun ms hp => ?_
  have hp : (match (generalizing := false) ms with
    | [.av (.v (.int .i64 n))] => true
    | _ => false) = true := hp
  split at hp
  · exact h _ hp
  · simp at hp

-- scutage/rate.Right
noncomputable def cfg14 (fu : Nat → Nat → Nat) : Cfg where
  P := Try.prog
  Γ := lookC []
  ann := fun g => bif Nat.beq g 14 then ⟨fu 14, fun k => []⟩ else ⟨fu g, fun _ => []⟩
  inl := []
theorem e14 (fu : Nat → Nat → Nat) (n : Int) : (cfg14 fu).runF 3 14 m14 r14 [.av (.v (.int .i64 n))] =
    bif (decide (n ≥ (0 : Int))) then
    some ([.av (.v (.bool (decide (n ≤ (1000000 : Int)))))], [.av (.v undef)])
    else
    some ([.av (.v (.bool false))], [.av (.v undef)]) := by
  kernel_rfl
def Said14 : Prop := ∀ (n : Int) , true = true → (cfg14 fu0).runF 3 14 m14 r14 [.av (.v (.int .i64 n))] = some (([.av (.v (.bool (rightR n)))], [.av (.v undef)]) : List MC × List MC)
theorem good14 (hΓ : AllGood Try.prog (cfg14 fu0).Γ) (h : Said14) : Good Try.prog 14 c14 := by
  refine (cfg14 fu0).good (d := 3) (r := r14) lawful lawfulO mixed hΓ (by kernel_rfl) fun ms hp => ?_
  have hp : (match (generalizing := false) ms with
    | [.av (.v (.int .i64 n))] => true
    | _ => false) = true := hp
  split at hp
  · exact h _ hp
  · simp at hp

-- scutage/scutagekeep.Within
noncomputable def cfg6 (fu : Nat → Nat → Nat) : Cfg where
  P := Try.prog
  Γ := lookC []
  ann := fun g => bif Nat.beq g 6 then ⟨fu 6, fun k => []⟩ else ⟨fu g, fun _ => []⟩
  inl := []
theorem e6 (fu : Nat → Nat → Nat) (v : Int) (n : Int) : (cfg6 fu).runF 3 6 m6 r6 [.av (.v (.int .i64 v)), .av (.v (.int .i64 n))] =
    bif (decide (n < (1 : Int))) then
    some ([.av (.v (.int .i64 (0 : Int)))], [.av (.v undef), .av (.v undef)])
    else
    bif (decide (n = 0)) then
    none
    else
    bif (decide ((Int.tmod v n) < (0 : Int))) then
    some ([.av (.v (.int .i64 (IntKind.i64.wrap ((Int.tmod v n) + n))))], [.av (.v undef), .av (.v undef)])
    else
    some ([.av (.v (.int .i64 (Int.tmod v n)))], [.av (.v undef), .av (.v undef)]) := by
  kernel_rfl
def Said6 : Prop := ∀ (v : Int) (n : Int) , (decide (n ≤ 1000000000000)) = true → (cfg6 fu0).runF 3 6 m6 r6 [.av (.v (.int .i64 v)), .av (.v (.int .i64 n))] = some (([.av (.v (.int .i64 (within v n)))], [.av (.v undef), .av (.v undef)]) : List MC × List MC)
theorem good6 (hΓ : AllGood Try.prog (cfg6 fu0).Γ) (h : Said6) : Good Try.prog 6 c6 := by
  refine (cfg6 fu0).good (d := 3) (r := r6) lawful lawfulO mixed hΓ (by kernel_rfl) fun ms hp => ?_
  have hp : (match (generalizing := false) ms with
    | [.av (.v (.int .i64 v)), .av (.v (.int .i64 n))] => decide (n ≤ 1000000000000)
    | _ => false) = true := hp
  split at hp
  · exact h _ _ hp
  · simp at hp

-- scutage/current.right
noncomputable def cfg15 (fu : Nat → Nat → Nat) : Cfg where
  P := Try.prog
  Γ := lookC []
  ann := fun g => bif Nat.beq g 15 then ⟨fu 15, fun k => []⟩ else ⟨fu g, fun _ => []⟩
  inl := []
theorem e15 (fu : Nat → Nat → Nat) (y : Int) : (cfg15 fu).runF 3 15 m15 r15 [.av (.v (.int .i64 y))] =
    bif (decide (y ≥ (0 : Int))) then
    some ([.av (.v (.bool (decide (y ≤ (99 : Int)))))], [.av (.v undef)])
    else
    some ([.av (.v (.bool false))], [.av (.v undef)]) := by
  kernel_rfl
def Said15 : Prop := ∀ (y : Int) , true = true → (cfg15 fu0).runF 3 15 m15 r15 [.av (.v (.int .i64 y))] = some (([.av (.v (.bool (yearR y)))], [.av (.v undef)]) : List MC × List MC)
theorem good15 (hΓ : AllGood Try.prog (cfg15 fu0).Γ) (h : Said15) : Good Try.prog 15 c15 := by
  refine (cfg15 fu0).good (d := 3) (r := r15) lawful lawfulO mixed hΓ (by kernel_rfl) fun ms hp => ?_
  have hp : (match (generalizing := false) ms with
    | [.av (.v (.int .i64 y))] => true
    | _ => false) = true := hp
  split at hp
  · exact h _ hp
  · simp at hp

-- scutage/scutageref09.Year
noncomputable def cfg33 (fu : Nat → Nat → Nat) : Cfg where
  P := Try.prog
  Γ := lookC []
  ann := fun g => bif Nat.beq g 33 then ⟨fu 33, fun k => []⟩ else ⟨fu g, fun _ => []⟩
  inl := []
theorem e33 (fu : Nat → Nat → Nat) (y : Int) : (cfg33 fu).runF 3 33 m33 r33 [.av (.v (.int .i64 y))] =
    bif (decide (y ≥ (0 : Int))) then
    some ([.av (.v (.bool (decide (y ≤ (99 : Int)))))], [.av (.v undef)])
    else
    some ([.av (.v (.bool false))], [.av (.v undef)]) := by
  kernel_rfl
def Said33 : Prop := ∀ (y : Int) , true = true → (cfg33 fu0).runF 3 33 m33 r33 [.av (.v (.int .i64 y))] = some (([.av (.v (.bool (yearR y)))], [.av (.v undef)]) : List MC × List MC)
theorem good33 (hΓ : AllGood Try.prog (cfg33 fu0).Γ) (h : Said33) : Good Try.prog 33 c33 := by
  refine (cfg33 fu0).good (d := 3) (r := r33) lawful lawfulO mixed hΓ (by kernel_rfl) fun ms hp => ?_
  have hp : (match (generalizing := false) ms with
    | [.av (.v (.int .i64 y))] => true
    | _ => false) = true := hp
  split at hp
  · exact h _ hp
  · simp at hp

-- scutage/vintage.right
noncomputable def cfg27 (fu : Nat → Nat → Nat) : Cfg where
  P := Try.prog
  Γ := lookC []
  ann := fun g => bif Nat.beq g 27 then ⟨fu 27, fun k => []⟩ else ⟨fu g, fun _ => []⟩
  inl := []
theorem e27 (fu : Nat → Nat → Nat) (o : Int) (e : Int) : (cfg27 fu).runF 3 27 m27 r27 [.av (.v (.int .i64 o)), .av (.v (.int .i64 e))] =
    bif (decide (o ≥ (0 : Int))) then
    bif (decide (o ≤ (99 : Int))) then
    bif (decide (e ≥ o)) then
    some ([.av (.v (.bool (decide (e ≤ (198 : Int)))))], [.av (.v undef), .av (.v undef)])
    else
    some ([.av (.v (.bool false))], [.av (.v undef), .av (.v undef)])
    else
    some ([.av (.v (.bool false))], [.av (.v undef), .av (.v undef)])
    else
    some ([.av (.v (.bool false))], [.av (.v undef), .av (.v undef)]) := by
  kernel_rfl
def Said27 : Prop := ∀ (o : Int) (e : Int) , true = true → (cfg27 fu0).runF 3 27 m27 r27 [.av (.v (.int .i64 o)), .av (.v (.int .i64 e))] = some (([.av (.v (.bool (rightV o e)))], [.av (.v undef), .av (.v undef)]) : List MC × List MC)
theorem good27 (hΓ : AllGood Try.prog (cfg27 fu0).Γ) (h : Said27) : Good Try.prog 27 c27 := by
  refine (cfg27 fu0).good (d := 3) (r := r27) lawful lawfulO mixed hΓ (by kernel_rfl) fun ms hp => ?_
  have hp : (match (generalizing := false) ms with
    | [.av (.v (.int .i64 o)), .av (.v (.int .i64 e))] => true
    | _ => false) = true := hp
  split at hp
  · exact h _ _ hp
  · simp at hp

-- scutage/scutageplay.Amount
noncomputable def cfg13 (fu : Nat → Nat → Nat) : Cfg where
  P := Try.prog
  Γ := lookC [(6, c6)]
  ann := fun g => bif Nat.beq g 13 then ⟨fu 13, fun k => []⟩ else ⟨fu g, fun _ => []⟩
  inl := []
theorem e13 (fu : Nat → Nat → Nat) (n : Int) : (cfg13 fu).runF 3 13 m13 r13 [.av (.v (.int .i64 n))] =
    bif ((Int.tmod n (23 : Int)) == (20 : Int)) then
    some ([.av (.v (.int .i64 (IntKind.i64.wrap ((IntKind.i64.wrap ((100000000000 : Int) - (within (IntKind.i64.wrap (Int.tdiv n (23 : Int))) (5 : Int)))) + (2 : Int)))))], [.av (.v undef)])
    else
    bif ((Int.tmod n (23 : Int)) == (21 : Int)) then
    some ([.av (.v (.int .i64 (IntKind.i64.wrap ((IntKind.i64.wrap ((-100000000000 : Int) + (within (IntKind.i64.wrap (Int.tdiv n (23 : Int))) (5 : Int)))) - (2 : Int)))))], [.av (.v undef)])
    else
    bif ((Int.tmod n (23 : Int)) == (22 : Int)) then
    some ([.av (.v (.int .i64 n))], [.av (.v undef)])
    else
    bif ((Int.tmod n (23 : Int)) == (19 : Int)) then
    some ([.av (.v (.int .i64 (IntKind.i64.wrap ((within (IntKind.i64.wrap (Int.tdiv n (23 : Int))) (200000000001 : Int)) - (100000000000 : Int)))))], [.av (.v undef)])
    else
    some ([.av (.v (.int .i64 (IntKind.i64.wrap ((within n (4001 : Int)) - (2000 : Int)))))], [.av (.v undef)]) := by
  kernel_rfl
def Said13 : Prop := ∀ (n : Int) , (decide (-9223372036854775808 ≤ n) && decide (n ≤ 9223372036854775807)) = true → (cfg13 fu0).runF 3 13 m13 r13 [.av (.v (.int .i64 n))] = some (([.av (.v (.int .i64 (amount n)))], [.av (.v undef)]) : List MC × List MC)
theorem good13 (hΓ : AllGood Try.prog (cfg13 fu0).Γ) (h : Said13) : Good Try.prog 13 c13 := by
  refine (cfg13 fu0).good (d := 3) (r := r13) lawful lawfulO mixed hΓ (by kernel_rfl) fun ms hp => ?_
  have hp : (match (generalizing := false) ms with
    | [.av (.v (.int .i64 n))] => decide (-9223372036854775808 ≤ n) && decide (n ≤ 9223372036854775807)
    | _ => false) = true := hp
  split at hp
  · exact h _ hp
  · simp at hp

-- scutage/rate.Of
noncomputable def cfg24 (fu : Nat → Nat → Nat) : Cfg where
  P := Try.prog
  Γ := lookC []
  ann := fun g => bif Nat.beq g 24 then ⟨fu 24, fun k => []⟩ else ⟨fu g, fun _ => []⟩
  inl := []
theorem e24 (fu : Nat → Nat → Nat) (n : Int) (r : Int) : (cfg24 fu).runF 3 24 m24 r24 [.av (.v (.int .i64 n)), .av (.v (.int .i64 r))] =
    bif (decide (n < (-400000000000 : Int))) then
    some ([.av (.v (.int .i64 (0 : Int))), .av (.v (.bool false))], [.av (.v undef), .av (.v undef)])
    else
    bif (decide (n > (400000000000 : Int))) then
    some ([.av (.v (.int .i64 (0 : Int))), .av (.v (.bool false))], [.av (.v undef), .av (.v undef)])
    else
    bif (decide (r < (0 : Int))) then
    some ([.av (.v (.int .i64 (0 : Int))), .av (.v (.bool false))], [.av (.v undef), .av (.v undef)])
    else
    bif (decide (r > (10000000 : Int))) then
    some ([.av (.v (.int .i64 (0 : Int))), .av (.v (.bool false))], [.av (.v undef), .av (.v undef)])
    else
    bif (decide (n < (0 : Int))) then
    some ([.av (.v (.int .i64 (IntKind.i64.wrap (Int.tdiv (IntKind.i64.wrap ((IntKind.i64.wrap ((IntKind.i64.wrap ((2 : Int) * n)) * r)) - (1000000 : Int))) (2000000 : Int))))), .av (.v (.bool true))], [.av (.v undef), .av (.v undef)])
    else
    some ([.av (.v (.int .i64 (IntKind.i64.wrap (Int.tdiv (IntKind.i64.wrap ((IntKind.i64.wrap ((IntKind.i64.wrap ((2 : Int) * n)) * r)) + (1000000 : Int))) (2000000 : Int))))), .av (.v (.bool true))], [.av (.v undef), .av (.v undef)]) := by
  kernel_rfl
def Said24 : Prop := ∀ (n : Int) (r : Int) , true = true → (cfg24 fu0).runF 3 24 m24 r24 [.av (.v (.int .i64 n)), .av (.v (.int .i64 r))] = some (bif (ofOK n r) then (([.av (.v (.int .i64 (part n r))), .av (.v (.bool true))], [.av (.v undef), .av (.v undef)]) : List MC × List MC) else (([.av (.v (.int .i64 (0 : Int))), .av (.v (.bool false))], [.av (.v undef), .av (.v undef)]) : List MC × List MC))
theorem good24 (hΓ : AllGood Try.prog (cfg24 fu0).Γ) (h : Said24) : Good Try.prog 24 c24 := by
  refine (cfg24 fu0).good (d := 3) (r := r24) lawful lawfulO mixed hΓ (by kernel_rfl) fun ms hp => ?_
  have hp : (match (generalizing := false) ms with
    | [.av (.v (.int .i64 n)), .av (.v (.int .i64 r))] => true
    | _ => false) = true := hp
  split at hp
  · exact h _ _ hp
  · simp at hp

-- scutage/rate.Floor
noncomputable def cfg37 (fu : Nat → Nat → Nat) : Cfg where
  P := Try.prog
  Γ := lookC [(28, c28), (14, c14)]
  ann := fun g => bif Nat.beq g 37 then ⟨fu 37, fun k => []⟩ else ⟨fu g, fun _ => []⟩
  inl := []
theorem e37 (fu : Nat → Nat → Nat) (n : Int) (r : Int) : (cfg37 fu).runF 3 37 m37 r37 [.av (.v (.int .i64 n)), .av (.v (.int .i64 r))] =
    bif (!(money n)) then
    some ([.av (.v (.int .i64 (0 : Int))), .av (.v (.bool false))], [.av (.v undef), .av (.v undef)])
    else
    bif (decide (n < (0 : Int))) then
    some ([.av (.v (.int .i64 (0 : Int))), .av (.v (.bool false))], [.av (.v undef), .av (.v undef)])
    else
    bif (!(rightR r)) then
    some ([.av (.v (.int .i64 (0 : Int))), .av (.v (.bool false))], [.av (.v undef), .av (.v undef)])
    else
    some ([.av (.v (.int .i64 (IntKind.i64.wrap (Int.tdiv (IntKind.i64.wrap (n * r)) (1000000 : Int))))), .av (.v (.bool true))], [.av (.v undef), .av (.v undef)]) := by
  kernel_rfl
def Said37 : Prop := ∀ (n : Int) (r : Int) , true = true → (cfg37 fu0).runF 3 37 m37 r37 [.av (.v (.int .i64 n)), .av (.v (.int .i64 r))] = some (bif (floorOK n r) then (([.av (.v (.int .i64 (floorP n r))), .av (.v (.bool true))], [.av (.v undef), .av (.v undef)]) : List MC × List MC) else (([.av (.v (.int .i64 (0 : Int))), .av (.v (.bool false))], [.av (.v undef), .av (.v undef)]) : List MC × List MC))
theorem good37 (hΓ : AllGood Try.prog (cfg37 fu0).Γ) (h : Said37) : Good Try.prog 37 c37 := by
  refine (cfg37 fu0).good (d := 3) (r := r37) lawful lawfulO mixed hΓ (by kernel_rfl) fun ms hp => ?_
  have hp : (match (generalizing := false) ms with
    | [.av (.v (.int .i64 n)), .av (.v (.int .i64 r))] => true
    | _ => false) = true := hp
  split at hp
  · exact h _ _ hp
  · simp at hp

-- scutage/rate.Sum
noncomputable def cfg35 (fu : Nat → Nat → Nat) : Cfg where
  P := Try.prog
  Γ := lookC [(28, c28)]
  ann := fun g => bif Nat.beq g 35 then ⟨fu 35, fun k => bif Nat.beq k 3 then [2, 3, 4, 7, 8, 9] else []⟩ else ⟨fu g, fun _ => []⟩
  inl := []
def S35_0 (n4 : Int) (t7 : List Int) (t8 : Int) (t9 : Int) : St :=
  ⟨fr 24 [(2, .v (.int .i64 (0 : Int))), (3, .v (.bool false)), (4, .v (.int .i64 n4)), (7, .imm .int t7), (8, .v (.int .i64 t8)), (9, .v (.int .i64 t9))], [fr 1 [(0, .imm .int t7)]], hpL [], 0⟩
def S35_0a (n4 : Int) (t7 : List Int) (t8 : Int) (t9 : Int) : St :=
  ⟨fr 24 [(2, .v (.int .i64 (0 : Int))), (3, .v (.bool false)), (4, .v (.int .i64 n4)), (7, .imm .int t7), (8, .v (.int .i64 t8)), (9, .v (.int .i64 t9))], [fr 1 [(0, .imm .int t7)]], hpL [], 0⟩
def S35_0b (n4 : Int) (t7 : List Int) (t8 : Int) (t9 : Int) : St :=
  ⟨fr 24 [(2, .v (.int .i64 (0 : Int))), (3, .v (.bool false)), (4, .v (.int .i64 n4)), (7, .imm .int t7), (8, .v (.int .i64 t8)), (9, .v (.int .i64 t9))], [fr 1 [(0, .imm .int t7)]], hpL [], 0⟩
theorem e35 (fu : Nat → Nat → Nat) (l : List Int) : (cfg35 fu).runF 3 35 m35 r35 [.av (.imm .int l)] =
    (cfg35 fu).loop 3 35 (loopOf (codeAt (bodyOf Try.f35) [true, true, false, true, false])) (S35_0 (0 : Int) l ((l.length : Nat) : Int) (0 : Int)) ((cfg35 fu).cont 3 35 (bodyOf Try.f35) [true, true, false, true, false] ((cfg35 fu).finK Try.f35 m35 r35)) := by
  kernel_rfl
theorem r35_0 {α : Type} (fu : Nat → Nat → Nat) (n4 : Int) (t7 : List Int) (t8 : Int) (t9 : Int) (K1 : St → Option α) (K2 : Ex → St → Option α): (cfg35 fu).run 3 35 (loopOf (codeAt (bodyOf Try.f35) [true, true, false, true, false])) (S35_0 n4 t7 t8 t9) ((cfg35 fu).roundK 35 (loopOf (codeAt (bodyOf Try.f35) [true, true, false, true, false])) K1 K2) =
    bif (decide (t9 < t8)) then
    bif (decide (0 ≤ t9)) then
    (match elt t7 t9.toNat with
    | none => none
    | some x1 => bif (!(money x1)) then
      K2 .ret (S35_0a n4 t7 t8 t9)
      else
      K1 (S35_0 (IntKind.i64.wrap (n4 + x1)) t7 t8 (IntKind.i64.wrap (t9 + (1 : Int)))))
    else
    none
    else
    K2 (.exit 0) (S35_0b n4 t7 t8 t9) := by
  kernel_rfl
theorem c35_0a (fu : Nat → Nat → Nat) (n4 : Int) (t7 : List Int) (t8 : Int) (t9 : Int) : ((cfg35 fu).cont 3 35 (bodyOf Try.f35) [true, true, false, true, false] ((cfg35 fu).finK Try.f35 m35 r35)) .ret (S35_0a n4 t7 t8 t9) =
    some ([.av (.v (.int .i64 (0 : Int))), .av (.v (.bool false))], [.av (.v undef)]) := by
  kernel_rfl
theorem c35_0b (fu : Nat → Nat → Nat) (n4 : Int) (t7 : List Int) (t8 : Int) (t9 : Int) : ((cfg35 fu).cont 3 35 (bodyOf Try.f35) [true, true, false, true, false] ((cfg35 fu).finK Try.f35 m35 r35)) (.exit 0) (S35_0b n4 t7 t8 t9) =
    bif (!(money n4)) then
    some ([.av (.v (.int .i64 (0 : Int))), .av (.v (.bool false))], [.av (.v undef)])
    else
    some ([.av (.v (.int .i64 n4)), .av (.v (.bool true))], [.av (.v undef)]) := by
  kernel_rfl
theorem lp35_0 {α : Type} (st : St) (K : Ex → St → Option α) : (cfg35 fu0).loop 3 35 (loopOf (codeAt (bodyOf Try.f35) [true, true, false, true, false])) st K = (cfg35 fu0).loopN 3 35 (loopOf (codeAt (bodyOf Try.f35) [true, true, false, true, false])) 1099511627776 st K := by kernel_rfl
def Said35 : Prop := ∀ (l : List Int) , (decide (l.length ≤ 1000)) = true → (cfg35 fu0).runF 3 35 m35 r35 [.av (.imm .int l)] = some (bif (sumOK l) then (([.av (.v (.int .i64 (sumI l))), .av (.v (.bool true))], [.av (.v undef)]) : List MC × List MC) else (([.av (.v (.int .i64 (0 : Int))), .av (.v (.bool false))], [.av (.v undef)]) : List MC × List MC))
theorem good35 (hΓ : AllGood Try.prog (cfg35 fu0).Γ) (h : Said35) : Good Try.prog 35 c35 := by
  refine (cfg35 fu0).good (d := 3) (r := r35) lawful lawfulO mixed hΓ (by kernel_rfl) fun ms hp => ?_
  have hp : (match (generalizing := false) ms with
    | [.av (.imm .int l)] => decide (l.length ≤ 1000)
    | _ => false) = true := hp
  split at hp
  · exact h _ hp
  · simp at hp

-- scutage/bridge.Income
noncomputable def cfg16 (fu : Nat → Nat → Nat) : Cfg where
  P := Try.prog
  Γ := lookC [(28, c28), (35, c35)]
  ann := fun g => bif Nat.beq g 16 then ⟨fu 16, fun k => []⟩ else ⟨fu g, fun _ => []⟩
  inl := []
theorem e16 (fu : Nat → Nat → Nat) (book : Int) (perm : Int) (moved : Int) : (cfg16 fu).runF 3 16 m16 r16 [.av (.v (.int .i64 book)), .av (.v (.int .i64 perm)), .av (.v (.int .i64 moved))] =
    bif (!(money moved)) then
    some ([.av (.v (.int .i64 (0 : Int))), .av (.v (.bool false))], [.av (.v undef), .av (.v undef), .av (.v undef)])
    else
    bif (decide (([book, perm, (IntKind.i64.wrap (0 - moved))] : List Int).length ≤ 1000)) then
    bif (sumOK ([book, perm, (IntKind.i64.wrap (0 - moved))] : List Int)) then
    some ([.av (.v (.int .i64 (sumI ([book, perm, (IntKind.i64.wrap (0 - moved))] : List Int)))), .av (.v (.bool true))], [.av (.v undef), .av (.v undef), .av (.v undef)])
    else
    some ([.av (.v (.int .i64 (0 : Int))), .av (.v (.bool false))], [.av (.v undef), .av (.v undef), .av (.v undef)])
    else
    none := by
  kernel_rfl
def Said16 : Prop := ∀ (book : Int) (perm : Int) (moved : Int) , true = true → (cfg16 fu0).runF 3 16 m16 r16 [.av (.v (.int .i64 book)), .av (.v (.int .i64 perm)), .av (.v (.int .i64 moved))] = some (bif (incomeOK book perm moved) then (([.av (.v (.int .i64 (incomeP book perm moved))), .av (.v (.bool true))], [.av (.v undef), .av (.v undef), .av (.v undef)]) : List MC × List MC) else (([.av (.v (.int .i64 (0 : Int))), .av (.v (.bool false))], [.av (.v undef), .av (.v undef), .av (.v undef)]) : List MC × List MC))
theorem good16 (hΓ : AllGood Try.prog (cfg16 fu0).Γ) (h : Said16) : Good Try.prog 16 c16 := by
  refine (cfg16 fu0).good (d := 3) (r := r16) lawful lawfulO mixed hΓ (by kernel_rfl) fun ms hp => ?_
  have hp : (match (generalizing := false) ms with
    | [.av (.v (.int .i64 book)), .av (.v (.int .i64 perm)), .av (.v (.int .i64 moved))] => true
    | _ => false) = true := hp
  split at hp
  · exact h _ _ _ hp
  · simp at hp

-- (*scutage/vintage.Losses).Left
noncomputable def cfg9 (fu : Nat → Nat → Nat) : Cfg where
  P := Try.prog
  Γ := lookC []
  ann := fun g => bif Nat.beq g 9 then ⟨fu 9, fun k => bif Nat.beq k 3 then [2, 3, 9, 10, 11] else []⟩ else ⟨fu g, fun _ => []⟩
  inl := []
def S9_0 (n3 : Int) (t10 : Int) (t11 : Int) (h0 : List Vintage) : St :=
  ⟨fr 21 [(2, .v (.int .i64 (0 : Int))), (3, .v (.int .i64 n3)), (9, .sl 0), (10, .v (.int .i64 t10)), (11, .v (.int .i64 t11))], [fr 1 [(0, .ptr 1 0)]], hpL [.arr (D := dom) .vintage h0, .cells [.sl 0]], 2⟩
def S9_0a (n3 : Int) (t10 : Int) (t11 : Int) (h0 : List Vintage) : St :=
  ⟨fr 21 [(2, .v (.int .i64 (0 : Int))), (3, .v (.int .i64 n3)), (9, .sl 0), (10, .v (.int .i64 t10)), (11, .v (.int .i64 t11))], [fr 1 [(0, .ptr 1 0)]], hpL [.arr (D := dom) .vintage h0, .cells [.sl 0]], 2⟩
theorem e9 (fu : Nat → Nat → Nat) (l : LossesO) : (cfg9 fu).runF 3 9 m9 r9 [.ptr .losses l] =
    (cfg9 fu).loop 3 9 (loopOf (codeAt (bodyOf Try.f9) [true, true, false, true, false])) (S9_0 (0 : Int) ((l.l.length : Nat) : Int) (0 : Int) l.l) ((cfg9 fu).cont 3 9 (bodyOf Try.f9) [true, true, false, true, false] ((cfg9 fu).finK Try.f9 m9 r9)) := by
  kernel_rfl
theorem r9_0 {α : Type} (fu : Nat → Nat → Nat) (n3 : Int) (t10 : Int) (t11 : Int) (h0 : List Vintage) (K1 : St → Option α) (K2 : Ex → St → Option α): (cfg9 fu).run 3 9 (loopOf (codeAt (bodyOf Try.f9) [true, true, false, true, false])) (S9_0 n3 t10 t11 h0) ((cfg9 fu).roundK 9 (loopOf (codeAt (bodyOf Try.f9) [true, true, false, true, false])) K1 K2) =
    bif (decide (t11 < t10)) then
    bif (decide (0 ≤ t11)) then
    (match elt h0 t11.toNat with
    | none => none
    | some x1 => (match elt h0 t11.toNat with
      | none => none
      | some x2 => K1 (S9_0 (IntKind.i64.wrap (n3 + x2.Left)) t10 (IntKind.i64.wrap (t11 + (1 : Int))) h0)))
    else
    none
    else
    K2 (.exit 0) (S9_0a n3 t10 t11 h0) := by
  kernel_rfl
theorem c9_0a (fu : Nat → Nat → Nat) (n3 : Int) (t10 : Int) (t11 : Int) (h0 : List Vintage) : ((cfg9 fu).cont 3 9 (bodyOf Try.f9) [true, true, false, true, false] ((cfg9 fu).finK Try.f9 m9 r9)) (.exit 0) (S9_0a n3 t10 t11 h0) =
    some ([.av (.v (.int .i64 n3))], [.ptr .losses (LossesO.mk h0)]) := by
  kernel_rfl
theorem lp9_0 {α : Type} (st : St) (K : Ex → St → Option α) : (cfg9 fu0).loop 3 9 (loopOf (codeAt (bodyOf Try.f9) [true, true, false, true, false])) st K = (cfg9 fu0).loopN 3 9 (loopOf (codeAt (bodyOf Try.f9) [true, true, false, true, false])) 1099511627776 st K := by kernel_rfl
def Said9 : Prop := ∀ (l : LossesO) , (wfL l.l) = true → (cfg9 fu0).runF 3 9 m9 r9 [.ptr .losses l] = some (([.av (.v (.int .i64 (left l.l)))], [.ptr .losses l]) : List MC × List MC)
theorem good9 (hΓ : AllGood Try.prog (cfg9 fu0).Γ) (h : Said9) : Good Try.prog 9 c9 := by
  refine (cfg9 fu0).good (d := 3) (r := r9) lawful lawfulO mixed hΓ (by kernel_rfl) fun ms hp => ?_
  have hp : (match (generalizing := false) ms with
    | [.ptr .losses l] => wfL l.l
    | _ => false) = true := hp
  split at hp
  · exact h _ hp
  · simp at hp

-- scutage/vintage.New
noncomputable def cfg10 (fu : Nat → Nat → Nat) : Cfg where
  P := Try.prog
  Γ := lookC []
  ann := fun g => bif Nat.beq g 10 then ⟨fu 10, fun k => []⟩ else ⟨fu g, fun _ => []⟩
  inl := []
theorem e10 (fu : Nat → Nat → Nat) : (cfg10 fu).runF 3 10 m10 r10 [] =
    some ([.ptr .losses (LossesO.mk ([] : List Vintage))], []) := by
  kernel_rfl
def Said10 : Prop := true = true → (cfg10 fu0).runF 3 10 m10 r10 [] = some (([.ptr .losses (LossesO.mk ([] : List Vintage))], []) : List MC × List MC)
theorem good10 (hΓ : AllGood Try.prog (cfg10 fu0).Γ) (h : Said10) : Good Try.prog 10 c10 := by
  refine (cfg10 fu0).good (d := 3) (r := r10) lawful lawfulO mixed hΓ (by kernel_rfl) fun ms hp => ?_
  have hp : (match (generalizing := false) ms with
    | [] => true
    | _ => false) = true := hp
  split at hp
  · exact h  hp
  · simp at hp

-- (*scutage/vintage.Losses).Rows
noncomputable def cfg20 (fu : Nat → Nat → Nat) : Cfg where
  P := Try.prog
  Γ := lookC [(36, c36)]
  ann := fun g => bif Nat.beq g 20 then ⟨fu 20, fun k => []⟩ else ⟨fu g, fun _ => []⟩
  inl := []
theorem e20 (fu : Nat → Nat → Nat) (l : LossesO) : (cfg20 fu).runF 3 20 m20 r20 [.ptr .losses l] =
    bif (decide (l.l.length ≤ 1000)) then
    some ([.arr .vintage l.l], [.ptr .losses (LossesO.mk l.l)])
    else
    none := by
  kernel_rfl
def Said20 : Prop := ∀ (l : LossesO) , (wfL l.l) = true → (cfg20 fu0).runF 3 20 m20 r20 [.ptr .losses l] = some (([.arr .vintage l.l], [.ptr .losses l]) : List MC × List MC)
theorem good20 (hΓ : AllGood Try.prog (cfg20 fu0).Γ) (h : Said20) : Good Try.prog 20 c20 := by
  refine (cfg20 fu0).good (d := 3) (r := r20) lawful lawfulO mixed hΓ (by kernel_rfl) fun ms hp => ?_
  have hp : (match (generalizing := false) ms with
    | [.ptr .losses l] => wfL l.l
    | _ => false) = true := hp
  split at hp
  · exact h _ hp
  · simp at hp

-- (*scutage/vintage.Losses).Clone
noncomputable def cfg17 (fu : Nat → Nat → Nat) : Cfg where
  P := Try.prog
  Γ := lookC [(20, c20)]
  ann := fun g => bif Nat.beq g 17 then ⟨fu 17, fun k => []⟩ else ⟨fu g, fun _ => []⟩
  inl := []
theorem e17 (fu : Nat → Nat → Nat) (l : LossesO) : (cfg17 fu).runF 3 17 m17 r17 [.ptr .losses l] =
    bif (wfL l.l) then
    some ([.ptr .losses (LossesO.mk l.l)], [.ptr .losses (LossesO.mk l.l)])
    else
    none := by
  kernel_rfl
def Said17 : Prop := ∀ (l : LossesO) , (wfL l.l) = true → (cfg17 fu0).runF 3 17 m17 r17 [.ptr .losses l] = some (([.ptr .losses (LossesO.mk l.l)], [.ptr .losses l]) : List MC × List MC)
theorem good17 (hΓ : AllGood Try.prog (cfg17 fu0).Γ) (h : Said17) : Good Try.prog 17 c17 := by
  refine (cfg17 fu0).good (d := 3) (r := r17) lawful lawfulO mixed hΓ (by kernel_rfl) fun ms hp => ?_
  have hp : (match (generalizing := false) ms with
    | [.ptr .losses l] => wfL l.l
    | _ => false) = true := hp
  split at hp
  · exact h _ hp
  · simp at hp

-- (*scutage/vintage.Losses).Expire
noncomputable def cfg18 (fu : Nat → Nat → Nat) : Cfg where
  P := Try.prog
  Γ := lookC []
  ann := fun g => bif Nat.beq g 18 then ⟨fu 18, fun k => bif Nat.beq k 1000 then [0, 1, 4, 5] else []⟩ else ⟨fu g, fun _ => []⟩
  inl := []
def J18 (year1 : Int) (gone5 : Int) (h1 : List Vintage) : St :=
  ⟨fr 41 [(0, .ptr 0 0), (1, .v (.int .i64 year1)), (4, .v (.int .i64 (0 : Int))), (5, .v (.int .i64 gone5))], [fr 2 [(0, .ptr 0 0), (1, .v (.int .i64 year1))]], hpL [.cells [.sl 1], .arr (D := dom) .vintage h1], 2⟩
theorem j18 (fu : Nat → Nat → Nat) (year1 : Int) (gone5 : Int) (h1 : List Vintage) (K1 : St → Option (List MC × List MC)): (cfg18 fu).run 3 18 (restOf (scopeOf (bodyOf Try.f18))) (J18 year1 gone5 h1) ((cfg18 fu).jumpK 18 (scopeOf (bodyOf Try.f18)) K1 ((cfg18 fu).finK Try.f18 m18 r18)) =
    bif (decide (((h1.length : Nat) : Int) > (0 : Int))) then
    (match elt h1 0 with
    | none => none
    | some x5 => (match elt h1 0 with
      | none => none
      | some x6 => bif (decide (x6.Expiry < year1)) then
        (match elt h1 0 with
        | none => none
        | some x7 => (match elt h1 0 with
          | none => none
          | some x8 => bif ((decide ((1 : Int) ≤ ((h1.length : Nat) : Int))) && (decide (((h1.length : Nat) : Int) ≤ ((h1.length : Nat) : Int)))) then
            K1 (J18 year1 (IntKind.i64.wrap (gone5 + x8.Left)) ((h1.take ((h1.length : Nat) : Int).toNat).drop 1))
            else
            none))
        else
        some ([.av (.v (.int .i64 gone5))], [.ptr .losses (LossesO.mk h1), .av (.v undef)])))
    else
    some ([.av (.v (.int .i64 gone5))], [.ptr .losses (LossesO.mk h1), .av (.v undef)]) := by
  kernel_rfl
theorem e18 (fu : Nat → Nat → Nat) (l : LossesO) (year : Int) : (cfg18 fu).runF 3 18 m18 r18 [.ptr .losses l, .av (.v (.int .i64 year))] =
    bif (decide (((l.l.length : Nat) : Int) > (0 : Int))) then
    (match elt l.l 0 with
    | none => none
    | some x1 => (match elt l.l 0 with
      | none => none
      | some x2 => bif (decide (x2.Expiry < year)) then
        (match elt l.l 0 with
        | none => none
        | some x3 => (match elt l.l 0 with
          | none => none
          | some x4 => bif ((decide ((1 : Int) ≤ ((l.l.length : Nat) : Int))) && (decide (((l.l.length : Nat) : Int) ≤ ((l.l.length : Nat) : Int)))) then
            (cfg18 fu).jump 3 18 (scopeOf (bodyOf Try.f18)) (J18 year (IntKind.i64.wrap ((0 : Int) + x4.Left)) ((l.l.take ((l.l.length : Nat) : Int).toNat).drop 1)) ((cfg18 fu).finK Try.f18 m18 r18)
            else
            none))
        else
        some ([.av (.v (.int .i64 (0 : Int)))], [.ptr .losses (LossesO.mk l.l), .av (.v undef)])))
    else
    some ([.av (.v (.int .i64 (0 : Int)))], [.ptr .losses (LossesO.mk l.l), .av (.v undef)]) := by
  kernel_rfl
theorem lj18 (st : St) (K : Ex → St → Option (List MC × List MC)) : (cfg18 fu0).jump 3 18 (scopeOf (bodyOf Try.f18)) st K = (cfg18 fu0).jumpN 3 18 (scopeOf (bodyOf Try.f18)) 1099511627776 st K := by kernel_rfl
def Said18 : Prop := ∀ (l : LossesO) (year : Int) , (wfL l.l) = true → (cfg18 fu0).runF 3 18 m18 r18 [.ptr .losses l, .av (.v (.int .i64 year))] = some (([.av (.v (.int .i64 (gone l.l year)))], [.ptr .losses (LossesO.mk (still l.l year)), .av (.v undef)]) : List MC × List MC)
theorem good18 (hΓ : AllGood Try.prog (cfg18 fu0).Γ) (h : Said18) : Good Try.prog 18 c18 := by
  refine (cfg18 fu0).good (d := 3) (r := r18) lawful lawfulO mixed hΓ (by kernel_rfl) fun ms hp => ?_
  have hp : (match (generalizing := false) ms with
    | [.ptr .losses l, .av (.v (.int .i64 year))] => wfL l.l
    | _ => false) = true := hp
  split at hp
  · exact h _ _ hp
  · simp at hp

-- scutage/use.Vector
noncomputable def cfg19 (fu : Nat → Nat → Nat) : Cfg where
  P := Try.prog
  Γ := lookC []
  ann := fun g => bif Nat.beq g 19 then ⟨fu 19, fun k => bif Nat.beq k 4 then [1, 6, 7, 8, 14, 15, 16] else []⟩ else ⟨fu g, fun _ => []⟩
  inl := []
def S19_0 (year1 : Int) (left7 : Int) (t14 : List Vintage) (t15 : Int) (t16 : Int) (h1 : List Int) (f0_2 : Int) : St :=
  ⟨fr 37 [(1, .v (.int .i64 year1)), (6, .sl 0), (7, .v (.int .i64 left7)), (8, .sl 1), (14, .imm .vintage t14), (15, .v (.int .i64 t15)), (16, .v (.int .i64 t16))], [fr 3 [(0, .imm .vintage t14), (1, .v (.int .i64 year1)), (2, .v (.int .i64 f0_2))]], hpL [.arr (D := dom) .int ([] : List Int), .arr (D := dom) .int h1], 2⟩
def S19_0a (year1 : Int) (left7 : Int) (t14 : List Vintage) (t15 : Int) (t16 : Int) (h1 : List Int) (f0_2 : Int) : St :=
  ⟨fr 37 [(1, .v (.int .i64 year1)), (6, .sl 0), (7, .v (.int .i64 left7)), (8, .sl 1), (14, .imm .vintage t14), (15, .v (.int .i64 t15)), (16, .v (.int .i64 t16))], [fr 3 [(0, .imm .vintage t14), (1, .v (.int .i64 year1)), (2, .v (.int .i64 f0_2))]], hpL [.arr (D := dom) .int ([] : List Int), .arr (D := dom) .int h1], 2⟩
theorem e19 (fu : Nat → Nat → Nat) (rows : List Vintage) (year : Int) (room : Int) : (cfg19 fu).runF 3 19 m19 r19 [.av (.imm .vintage rows), .av (.v (.int .i64 year)), .av (.v (.int .i64 room))] =
    (cfg19 fu).loop 3 19 (loopOf (codeAt (bodyOf Try.f19) [true, true, true, false, true, false])) (S19_0 year (max (0 : Int) room) rows ((rows.length : Nat) : Int) (0 : Int) ([] : List Int) room) ((cfg19 fu).cont 3 19 (bodyOf Try.f19) [true, true, true, false, true, false] ((cfg19 fu).finK Try.f19 m19 r19)) := by
  kernel_rfl
theorem r19_0 {α : Type} (fu : Nat → Nat → Nat) (year1 : Int) (left7 : Int) (t14 : List Vintage) (t15 : Int) (t16 : Int) (h1 : List Int) (f0_2 : Int) (K1 : St → Option α) (K2 : Ex → St → Option α): (cfg19 fu).run 3 19 (loopOf (codeAt (bodyOf Try.f19) [true, true, true, false, true, false])) (S19_0 year1 left7 t14 t15 t16 h1 f0_2) ((cfg19 fu).roundK 19 (loopOf (codeAt (bodyOf Try.f19) [true, true, true, false, true, false])) K1 K2) =
    bif (decide (t16 < t15)) then
    bif (decide (0 ≤ t16)) then
    (match elt t14 t16.toNat with
    | none => none
    | some x1 => bif (decide (x1.Expiry ≥ year1)) then
      bif (decide ((h1.length + 1) * 8 ≤ 140737488355328)) then
      K1 (S19_0 year1 (IntKind.i64.wrap (left7 - (min x1.Left left7))) t14 t15 (IntKind.i64.wrap (t16 + (1 : Int))) (h1 ++ ([(min x1.Left left7)] : List Int)) f0_2)
      else
      none
      else
      bif (decide ((h1.length + 1) * 8 ≤ 140737488355328)) then
      K1 (S19_0 year1 (IntKind.i64.wrap (left7 - (0 : Int))) t14 t15 (IntKind.i64.wrap (t16 + (1 : Int))) (h1 ++ ([(0 : Int)] : List Int)) f0_2)
      else
      none)
    else
    none
    else
    K2 (.exit 0) (S19_0a year1 left7 t14 t15 t16 h1 f0_2) := by
  kernel_rfl
theorem c19_0a (fu : Nat → Nat → Nat) (year1 : Int) (left7 : Int) (t14 : List Vintage) (t15 : Int) (t16 : Int) (h1 : List Int) (f0_2 : Int) : ((cfg19 fu).cont 3 19 (bodyOf Try.f19) [true, true, true, false, true, false] ((cfg19 fu).finK Try.f19 m19 r19)) (.exit 0) (S19_0a year1 left7 t14 t15 t16 h1 f0_2) =
    some ([.av (.imm .int h1)], [.av (.v undef), .av (.v undef), .av (.v undef)]) := by
  kernel_rfl
theorem lp19_0 {α : Type} (st : St) (K : Ex → St → Option α) : (cfg19 fu0).loop 3 19 (loopOf (codeAt (bodyOf Try.f19) [true, true, true, false, true, false])) st K = (cfg19 fu0).loopN 3 19 (loopOf (codeAt (bodyOf Try.f19) [true, true, true, false, true, false])) 1099511627776 st K := by kernel_rfl
def Said19 : Prop := ∀ (rows : List Vintage) (year : Int) (room : Int) , (wfL rows && decide (room ≤ 1000000000000)) = true → (cfg19 fu0).runF 3 19 m19 r19 [.av (.imm .vintage rows), .av (.v (.int .i64 year)), .av (.v (.int .i64 room))] = some (([.av (.imm .int (vector rows year room))], [.av (.v undef), .av (.v undef), .av (.v undef)]) : List MC × List MC)
theorem good19 (hΓ : AllGood Try.prog (cfg19 fu0).Γ) (h : Said19) : Good Try.prog 19 c19 := by
  refine (cfg19 fu0).good (d := 3) (r := r19) lawful lawfulO mixed hΓ (by kernel_rfl) fun ms hp => ?_
  have hp : (match (generalizing := false) ms with
    | [.av (.imm .vintage rows), .av (.v (.int .i64 year)), .av (.v (.int .i64 room))] => wfL rows && decide (room ≤ 1000000000000)
    | _ => false) = true := hp
  split at hp
  · exact h _ _ _ hp
  · simp at hp

-- scutage/use.Room
noncomputable def cfg21 (fu : Nat → Nat → Nat) : Cfg where
  P := Try.prog
  Γ := lookC [(37, c37)]
  ann := fun g => bif Nat.beq g 21 then ⟨fu 21, fun k => []⟩ else ⟨fu g, fun _ => []⟩
  inl := []
theorem e21 (fu : Nat → Nat → Nat) (income : Int) (most : Int) : (cfg21 fu).runF 3 21 m21 r21 [.av (.v (.int .i64 income)), .av (.v (.int .i64 most))] =
    bif (decide (income < (1 : Int))) then
    some ([.av (.v (.int .i64 (0 : Int)))], [.av (.v undef), .av (.v undef)])
    else
    bif (floorOK income most) then
    some ([.av (.v (.int .i64 (floorP income most)))], [.av (.v undef), .av (.v undef)])
    else
    some ([.av (.v (.int .i64 (0 : Int)))], [.av (.v undef), .av (.v undef)]) := by
  kernel_rfl
def Said21 : Prop := ∀ (income : Int) (most : Int) , true = true → (cfg21 fu0).runF 3 21 m21 r21 [.av (.v (.int .i64 income)), .av (.v (.int .i64 most))] = some (([.av (.v (.int .i64 (roomP income most)))], [.av (.v undef), .av (.v undef)]) : List MC × List MC)
theorem good21 (hΓ : AllGood Try.prog (cfg21 fu0).Γ) (h : Said21) : Good Try.prog 21 c21 := by
  refine (cfg21 fu0).good (d := 3) (r := r21) lawful lawfulO mixed hΓ (by kernel_rfl) fun ms hp => ?_
  have hp : (match (generalizing := false) ms with
    | [.av (.v (.int .i64 income)), .av (.v (.int .i64 most))] => true
    | _ => false) = true := hp
  split at hp
  · exact h _ _ hp
  · simp at hp

-- scutage/use.Used
noncomputable def cfg22 (fu : Nat → Nat → Nat) : Cfg where
  P := Try.prog
  Γ := lookC []
  ann := fun g => bif Nat.beq g 22 then ⟨fu 22, fun k => bif Nat.beq k 3 then [2, 3, 6, 7, 8] else []⟩ else ⟨fu g, fun _ => []⟩
  inl := []
def S22_0 (n3 : Int) (t6 : List Int) (t7 : Int) (t8 : Int) : St :=
  ⟨fr 17 [(2, .v (.int .i64 (0 : Int))), (3, .v (.int .i64 n3)), (6, .imm .int t6), (7, .v (.int .i64 t7)), (8, .v (.int .i64 t8))], [fr 1 [(0, .imm .int t6)]], hpL [], 0⟩
def S22_0a (n3 : Int) (t6 : List Int) (t7 : Int) (t8 : Int) : St :=
  ⟨fr 17 [(2, .v (.int .i64 (0 : Int))), (3, .v (.int .i64 n3)), (6, .imm .int t6), (7, .v (.int .i64 t7)), (8, .v (.int .i64 t8))], [fr 1 [(0, .imm .int t6)]], hpL [], 0⟩
theorem e22 (fu : Nat → Nat → Nat) (v : List Int) : (cfg22 fu).runF 3 22 m22 r22 [.av (.imm .int v)] =
    (cfg22 fu).loop 3 22 (loopOf (codeAt (bodyOf Try.f22) [true, true, false, true, false])) (S22_0 (0 : Int) v ((v.length : Nat) : Int) (0 : Int)) ((cfg22 fu).cont 3 22 (bodyOf Try.f22) [true, true, false, true, false] ((cfg22 fu).finK Try.f22 m22 r22)) := by
  kernel_rfl
theorem r22_0 {α : Type} (fu : Nat → Nat → Nat) (n3 : Int) (t6 : List Int) (t7 : Int) (t8 : Int) (K1 : St → Option α) (K2 : Ex → St → Option α): (cfg22 fu).run 3 22 (loopOf (codeAt (bodyOf Try.f22) [true, true, false, true, false])) (S22_0 n3 t6 t7 t8) ((cfg22 fu).roundK 22 (loopOf (codeAt (bodyOf Try.f22) [true, true, false, true, false])) K1 K2) =
    bif (decide (t8 < t7)) then
    bif (decide (0 ≤ t8)) then
    (match elt t6 t8.toNat with
    | none => none
    | some x1 => K1 (S22_0 (IntKind.i64.wrap (n3 + x1)) t6 t7 (IntKind.i64.wrap (t8 + (1 : Int)))))
    else
    none
    else
    K2 (.exit 0) (S22_0a n3 t6 t7 t8) := by
  kernel_rfl
theorem c22_0a (fu : Nat → Nat → Nat) (n3 : Int) (t6 : List Int) (t7 : Int) (t8 : Int) : ((cfg22 fu).cont 3 22 (bodyOf Try.f22) [true, true, false, true, false] ((cfg22 fu).finK Try.f22 m22 r22)) (.exit 0) (S22_0a n3 t6 t7 t8) =
    some ([.av (.v (.int .i64 n3))], [.av (.v undef)]) := by
  kernel_rfl
theorem lp22_0 {α : Type} (st : St) (K : Ex → St → Option α) : (cfg22 fu0).loop 3 22 (loopOf (codeAt (bodyOf Try.f22) [true, true, false, true, false])) st K = (cfg22 fu0).loopN 3 22 (loopOf (codeAt (bodyOf Try.f22) [true, true, false, true, false])) 1099511627776 st K := by kernel_rfl
def Said22 : Prop := ∀ (v : List Int) , (decide (v.length ≤ 1000) && allSmall v) = true → (cfg22 fu0).runF 3 22 m22 r22 [.av (.imm .int v)] = some (([.av (.v (.int .i64 (sumI v)))], [.av (.v undef)]) : List MC × List MC)
theorem good22 (hΓ : AllGood Try.prog (cfg22 fu0).Γ) (h : Said22) : Good Try.prog 22 c22 := by
  refine (cfg22 fu0).good (d := 3) (r := r22) lawful lawfulO mixed hΓ (by kernel_rfl) fun ms hp => ?_
  have hp : (match (generalizing := false) ms with
    | [.av (.imm .int v)] => decide (v.length ≤ 1000) && allSmall v
    | _ => false) = true := hp
  split at hp
  · exact h _ hp
  · simp at hp

-- (*scutage/vintage.Losses).Take
noncomputable def cfg23 (fu : Nat → Nat → Nat) : Cfg where
  P := Try.prog
  Γ := lookC [(20, c20), (38, c38)]
  ann := fun g => bif Nat.beq g 23 then ⟨fu 23, fun k => bif Nat.beq k 4 then [0, 1, 4, 18, 19, 20] else bif Nat.beq k 11 then [0, 4, 7, 42, 43, 44] else []⟩ else ⟨fu g, fun _ => []⟩
  inl := []
def S23_0 (used1 : List Int) (t19 : Int) (t20 : Int) (h1 : List Vintage) : St :=
  ⟨fr 66 [(0, .ptr 0 0), (1, .imm .int used1), (4, .v (.int .i64 (0 : Int))), (18, .imm .int used1), (19, .v (.int .i64 t19)), (20, .v (.int .i64 t20))], [fr 2 [(0, .ptr 0 0), (1, .imm .int used1)]], hpL [.cells [.sl 1], .arr (D := dom) .vintage h1], 2⟩
def S23_0a (used1 : List Int) (t19 : Int) (t20 : Int) (h1 : List Vintage) : St :=
  ⟨fr 66 [(0, .ptr 0 0), (1, .imm .int used1), (4, .v (.int .i64 (1 : Int))), (18, .imm .int used1), (19, .v (.int .i64 t19)), (20, .v (.int .i64 t20))], [fr 2 [(0, .ptr 0 0), (1, .imm .int used1)]], hpL [.cells [.sl 1], .arr (D := dom) .vintage h1], 2⟩
def S23_0b (used1 : List Int) (t19 : Int) (t20 : Int) (h1 : List Vintage) : St :=
  ⟨fr 66 [(0, .ptr 0 0), (1, .imm .int used1), (4, .v (.int .i64 (0 : Int))), (18, .imm .int used1), (19, .v (.int .i64 t19)), (20, .v (.int .i64 t20))], [fr 2 [(0, .ptr 0 0), (1, .imm .int used1)]], hpL [.cells [.sl 1], .arr (D := dom) .vintage h1], 2⟩
def S23_1 (t42 : List Int) (t43 : Int) (t44 : Int) (h1 : List Vintage) (h2 : List Vintage) : St :=
  ⟨fr 66 [(0, .ptr 0 0), (4, .v (.int .i64 (0 : Int))), (7, .sl 2), (42, .imm .int t42), (43, .v (.int .i64 t43)), (44, .v (.int .i64 t44))], [fr 2 [(0, .ptr 0 0), (1, .imm .int t42)]], hpL [.cells [.sl 1], .arr (D := dom) .vintage h1, .arr (D := dom) .vintage h2], 3⟩
def S23_1a (t42 : List Int) (t43 : Int) (t44 : Int) (h1 : List Vintage) (h2 : List Vintage) : St :=
  ⟨fr 66 [(0, .ptr 0 0), (4, .v (.int .i64 (0 : Int))), (7, .sl 2), (42, .imm .int t42), (43, .v (.int .i64 t43)), (44, .v (.int .i64 t44))], [fr 2 [(0, .ptr 0 0), (1, .imm .int t42)]], hpL [.cells [.sl 1], .arr (D := dom) .vintage h1, .arr (D := dom) .vintage h2], 3⟩
theorem e23 (fu : Nat → Nat → Nat) (l : LossesO) (used : List Int) : (cfg23 fu).runF 3 23 m23 r23 [.ptr .losses l, .av (.imm .int used)] =
    bif (!(((used.length : Nat) : Int) == ((l.l.length : Nat) : Int))) then
    some ([.av (.v (.int .i64 (1 : Int)))], [.ptr .losses (LossesO.mk l.l), .av (.v undef)])
    else
    (cfg23 fu).loop 3 23 (loopOf (codeAt (bodyOf Try.f23) [true, true, false, true, false])) (S23_0 used ((used.length : Nat) : Int) (0 : Int) l.l) ((cfg23 fu).cont 3 23 (bodyOf Try.f23) [true, true, false, true, false] ((cfg23 fu).finK Try.f23 m23 r23)) := by
  kernel_rfl
theorem r23_0 {α : Type} (fu : Nat → Nat → Nat) (used1 : List Int) (t19 : Int) (t20 : Int) (h1 : List Vintage) (K1 : St → Option α) (K2 : Ex → St → Option α): (cfg23 fu).run 3 23 (loopOf (codeAt (bodyOf Try.f23) [true, true, false, true, false])) (S23_0 used1 t19 t20 h1) ((cfg23 fu).roundK 23 (loopOf (codeAt (bodyOf Try.f23) [true, true, false, true, false])) K1 K2) =
    bif (decide (t20 < t19)) then
    bif (decide (0 ≤ t20)) then
    (match elt used1 t20.toNat with
    | none => none
    | some x1 => bif (decide (x1 < (0 : Int))) then
      K2 .ret (S23_0a used1 t19 t20 h1)
      else
      bif (decide (0 ≤ t20)) then
      (match elt h1 t20.toNat with
      | none => none
      | some x2 => (match elt h1 t20.toNat with
        | none => none
        | some x3 => bif (decide (x1 > x3.Left)) then
          K2 .ret (S23_0a used1 t19 t20 h1)
          else
          K1 (S23_0 used1 t19 (IntKind.i64.wrap (t20 + (1 : Int))) h1)))
      else
      none)
    else
    none
    else
    K2 (.exit 0) (S23_0b used1 t19 t20 h1) := by
  kernel_rfl
theorem c23_0a (fu : Nat → Nat → Nat) (used1 : List Int) (t19 : Int) (t20 : Int) (h1 : List Vintage) : ((cfg23 fu).cont 3 23 (bodyOf Try.f23) [true, true, false, true, false] ((cfg23 fu).finK Try.f23 m23 r23)) .ret (S23_0a used1 t19 t20 h1) =
    some ([.av (.v (.int .i64 (1 : Int)))], [.ptr .losses (LossesO.mk h1), .av (.v undef)]) := by
  kernel_rfl
theorem c23_0b (fu : Nat → Nat → Nat) (used1 : List Int) (t19 : Int) (t20 : Int) (h1 : List Vintage) : ((cfg23 fu).cont 3 23 (bodyOf Try.f23) [true, true, false, true, false] ((cfg23 fu).finK Try.f23 m23 r23)) (.exit 0) (S23_0b used1 t19 t20 h1) =
    bif (wfL h1) then
    (cfg23 fu).loop 3 23 (loopOf (codeAt (bodyOf Try.f23) [true, true, true, true, false, true, false])) (S23_1 used1 ((used1.length : Nat) : Int) (0 : Int) h1 h1) ((cfg23 fu).cont 3 23 (bodyOf Try.f23) [true, true, true, true, false, true, false] ((cfg23 fu).finK Try.f23 m23 r23))
    else
    none := by
  kernel_rfl
theorem r23_1 {α : Type} (fu : Nat → Nat → Nat) (t42 : List Int) (t43 : Int) (t44 : Int) (h1 : List Vintage) (h2 : List Vintage) (K1 : St → Option α) (K2 : Ex → St → Option α): (cfg23 fu).run 3 23 (loopOf (codeAt (bodyOf Try.f23) [true, true, true, true, false, true, false])) (S23_1 t42 t43 t44 h1 h2) ((cfg23 fu).roundK 23 (loopOf (codeAt (bodyOf Try.f23) [true, true, true, true, false, true, false])) K1 K2) =
    bif (decide (t44 < t43)) then
    bif (decide (0 ≤ t44)) then
    (match elt t42 t44.toNat with
    | none => none
    | some x4 => bif (decide (0 ≤ t44)) then
      (match elt h2 t44.toNat with
      | none => none
      | some x5 => (match elt h2 t44.toNat with
        | none => none
        | some x6 => bif (decide (0 ≤ t44)) then
          (match elt h2 t44.toNat with
          | none => none
          | some x7 => (match elt h2 t44.toNat with
            | none => none
            | some x8 => K1 (S23_1 t42 t43 (IntKind.i64.wrap (t44 + (1 : Int))) h1 (setE h2 t44.toNat (Vintage.mk x8.Origin x8.Expiry (IntKind.i64.wrap (x6.Left - x4)))))))
          else
          none))
      else
      none)
    else
    none
    else
    K2 (.exit 2) (S23_1a t42 t43 t44 h1 h2) := by
  kernel_rfl
theorem c23_1a (fu : Nat → Nat → Nat) (t42 : List Int) (t43 : Int) (t44 : Int) (h1 : List Vintage) (h2 : List Vintage) : ((cfg23 fu).cont 3 23 (bodyOf Try.f23) [true, true, true, true, false, true, false] ((cfg23 fu).finK Try.f23 m23 r23)) (.exit 2) (S23_1a t42 t43 t44 h1 h2) =
    bif (decide (h2.length ≤ 1000)) then
    some ([.av (.v (.int .i64 (0 : Int)))], [.ptr .losses (LossesO.mk (filterL h2)), .av (.v undef)])
    else
    none := by
  kernel_rfl
theorem lp23_0 {α : Type} (st : St) (K : Ex → St → Option α) : (cfg23 fu0).loop 3 23 (loopOf (codeAt (bodyOf Try.f23) [true, true, false, true, false])) st K = (cfg23 fu0).loopN 3 23 (loopOf (codeAt (bodyOf Try.f23) [true, true, false, true, false])) 1099511627776 st K := by kernel_rfl
theorem lp23_1 {α : Type} (st : St) (K : Ex → St → Option α) : (cfg23 fu0).loop 3 23 (loopOf (codeAt (bodyOf Try.f23) [true, true, true, true, false, true, false])) st K = (cfg23 fu0).loopN 3 23 (loopOf (codeAt (bodyOf Try.f23) [true, true, true, true, false, true, false])) 1099511627776 st K := by kernel_rfl
def Said23 : Prop := ∀ (l : LossesO) (used : List Int) , (wfL l.l && decide (used.length ≤ 1000)) = true → (cfg23 fu0).runF 3 23 m23 r23 [.ptr .losses l, .av (.imm .int used)] = some (bif (takeOK l.l used) then (([.av (.v (.int .i64 (0 : Int)))], [.ptr .losses (LossesO.mk (takeP l.l used)), .av (.v undef)]) : List MC × List MC) else (([.av (.v (.int .i64 (1 : Int)))], [.ptr .losses l, .av (.v undef)]) : List MC × List MC))
theorem good23 (hΓ : AllGood Try.prog (cfg23 fu0).Γ) (h : Said23) : Good Try.prog 23 c23 := by
  refine (cfg23 fu0).good (d := 3) (r := r23) lawful lawfulO mixed hΓ (by kernel_rfl) fun ms hp => ?_
  have hp : (match (generalizing := false) ms with
    | [.ptr .losses l, .av (.imm .int used)] => wfL l.l && decide (used.length ≤ 1000)
    | _ => false) = true := hp
  split at hp
  · exact h _ _ hp
  · simp at hp

-- (*scutage/scutageref09.Losses).Left
noncomputable def cfg34 (fu : Nat → Nat → Nat) : Cfg where
  P := Try.prog
  Γ := lookC []
  ann := fun g => bif Nat.beq g 34 then ⟨fu 34, fun k => bif Nat.beq k 3 then [2, 3, 9, 10, 11] else []⟩ else ⟨fu g, fun _ => []⟩
  inl := []
def S34_0 (n3 : Int) (t10 : Int) (t11 : Int) (h0 : List Vintage) : St :=
  ⟨fr 21 [(2, .v (.int .i64 (0 : Int))), (3, .v (.int .i64 n3)), (9, .sl 0), (10, .v (.int .i64 t10)), (11, .v (.int .i64 t11))], [fr 1 [(0, .ptr 1 0)]], hpL [.arr (D := dom) .vintage h0, .cells [.sl 0]], 2⟩
def S34_0a (n3 : Int) (t10 : Int) (t11 : Int) (h0 : List Vintage) : St :=
  ⟨fr 21 [(2, .v (.int .i64 (0 : Int))), (3, .v (.int .i64 n3)), (9, .sl 0), (10, .v (.int .i64 t10)), (11, .v (.int .i64 t11))], [fr 1 [(0, .ptr 1 0)]], hpL [.arr (D := dom) .vintage h0, .cells [.sl 0]], 2⟩
theorem e34 (fu : Nat → Nat → Nat) (l : RLossesO) : (cfg34 fu).runF 3 34 m34 r34 [.ptr .rlosses l] =
    (cfg34 fu).loop 3 34 (loopOf (codeAt (bodyOf Try.f34) [true, true, false, true, false])) (S34_0 (0 : Int) ((l.V.length : Nat) : Int) (0 : Int) l.V) ((cfg34 fu).cont 3 34 (bodyOf Try.f34) [true, true, false, true, false] ((cfg34 fu).finK Try.f34 m34 r34)) := by
  kernel_rfl
theorem r34_0 {α : Type} (fu : Nat → Nat → Nat) (n3 : Int) (t10 : Int) (t11 : Int) (h0 : List Vintage) (K1 : St → Option α) (K2 : Ex → St → Option α): (cfg34 fu).run 3 34 (loopOf (codeAt (bodyOf Try.f34) [true, true, false, true, false])) (S34_0 n3 t10 t11 h0) ((cfg34 fu).roundK 34 (loopOf (codeAt (bodyOf Try.f34) [true, true, false, true, false])) K1 K2) =
    bif (decide (t11 < t10)) then
    bif (decide (0 ≤ t11)) then
    (match elt h0 t11.toNat with
    | none => none
    | some x1 => (match elt h0 t11.toNat with
      | none => none
      | some x2 => K1 (S34_0 (IntKind.i64.wrap (n3 + x2.Left)) t10 (IntKind.i64.wrap (t11 + (1 : Int))) h0)))
    else
    none
    else
    K2 (.exit 0) (S34_0a n3 t10 t11 h0) := by
  kernel_rfl
theorem c34_0a (fu : Nat → Nat → Nat) (n3 : Int) (t10 : Int) (t11 : Int) (h0 : List Vintage) : ((cfg34 fu).cont 3 34 (bodyOf Try.f34) [true, true, false, true, false] ((cfg34 fu).finK Try.f34 m34 r34)) (.exit 0) (S34_0a n3 t10 t11 h0) =
    some ([.av (.v (.int .i64 n3))], [.ptr .rlosses (RLossesO.mk h0)]) := by
  kernel_rfl
theorem lp34_0 {α : Type} (st : St) (K : Ex → St → Option α) : (cfg34 fu0).loop 3 34 (loopOf (codeAt (bodyOf Try.f34) [true, true, false, true, false])) st K = (cfg34 fu0).loopN 3 34 (loopOf (codeAt (bodyOf Try.f34) [true, true, false, true, false])) 1099511627776 st K := by kernel_rfl
def Said34 : Prop := ∀ (l : RLossesO) , (wfL l.V) = true → (cfg34 fu0).runF 3 34 m34 r34 [.ptr .rlosses l] = some (([.av (.v (.int .i64 (left l.V)))], [.ptr .rlosses l]) : List MC × List MC)
theorem good34 (hΓ : AllGood Try.prog (cfg34 fu0).Γ) (h : Said34) : Good Try.prog 34 c34 := by
  refine (cfg34 fu0).good (d := 3) (r := r34) lawful lawfulO mixed hΓ (by kernel_rfl) fun ms hp => ?_
  have hp : (match (generalizing := false) ms with
    | [.ptr .rlosses l] => wfL l.V
    | _ => false) = true := hp
  split at hp
  · exact h _ hp
  · simp at hp

end Go.Proofs.Ytbnmmfjdbdbldaa

/-
  The simple functions compute what Pure says.
-/
namespace Go.Proofs.Ytbnmmfjdbdbldaa
open Go.Abs

theorem said28 : Said28 := by
  intro n _
  rw [e28]
  unfold money
  cases decide (n ≥ -100000000000) <;> rfl

theorem said14 : Said14 := by
  intro n _
  rw [e14]
  unfold rightR
  cases decide (n ≥ 0) <;> rfl

theorem said15 : Said15 := by
  intro n _
  rw [e15]
  unfold yearR
  cases decide (n ≥ 0) <;> rfl

theorem said33 : Said33 := by
  intro n _
  rw [e33]
  unfold yearR
  cases decide (n ≥ 0) <;> rfl

theorem said27 : Said27 := by
  intro o e _
  rw [e27]
  unfold rightV
  cases decide (o ≥ 0) <;> cases decide (o ≤ 99) <;> cases decide (e ≥ o) <;> rfl

theorem tmod_within {v n : Int} (hn : 1 ≤ n) : (if Int.tmod v n < 0 then Int.tmod v n + n else Int.tmod v n) = v % n := by
  have h1 := Int.emod_nonneg v (by omega : n ≠ 0)
  have h2 := Int.emod_lt_of_pos v (by omega : 0 < n)
  have h := Int.tmod_eq_emod (a := v) (b := n)
  rw [h]
  by_cases hd : 0 ≤ v ∨ n ∣ v
  · rw [if_pos hd]; split <;> omega
  · rw [if_neg hd]
    have : (n.natAbs : Int) = n := by omega
    rw [this]
    split
    · omega
    · have : v % n = n := by omega
      omega

theorem said6 : Said6 := by
  intro v n hp
  have hp := of_decide_eq_true hp
  rw [e6]
  unfold within
  by_cases h1 : n < 1
  · simp [h1]
  · have h0 : ¬ n = 0 := by omega
    have key := tmod_within (v := v) (n := n) (by omega)
    have b1 := Int.emod_nonneg v (by omega : n ≠ 0)
    have b2 := Int.emod_lt_of_pos v (by omega : 0 < n)
    simp only [h1, h0, decide_false, cond_false, if_false]
    by_cases h2 : Int.tmod v n < 0
    · rw [if_pos h2] at key
      simp only [h2, decide_true, cond_true]
      rw [key, IntWalk.i64_in _ (by omega)]
    · rw [if_neg h2] at key
      simp only [h2, decide_false, cond_false]
      rw [key]

theorem within_lt (v : Int) {n : Int} (hn : 1 ≤ n) : 0 ≤ within v n ∧ within v n < n := by
  unfold within
  rw [if_neg (by omega)]
  exact ⟨Int.emod_nonneg v (by omega), Int.emod_lt_of_pos v (by omega)⟩

theorem said13 : Said13 := by
  intro n hp
  simp only [Bool.and_eq_true, decide_eq_true_eq] at hp
  rw [e13, IntWalk.i64_quo' n 23 (by omega)]
  have h1 := within_lt (Int.tdiv n 23) (n := 5) (by omega)
  have h2 := within_lt (Int.tdiv n 23) (n := 200000000001) (by omega)
  have h3 := within_lt n (n := 4001) (by omega)
  rw [IntWalk.i64_in (100000000000 - _) (by omega), IntWalk.i64_in (100000000000 - _ + 2) (by omega), IntWalk.i64_in (-100000000000 + _) (by omega), IntWalk.i64_in (-100000000000 + _ - 2) (by omega), IntWalk.i64_in (_ - 100000000000) (by omega), IntWalk.i64_in (_ - 2000) (by omega)]
  simp only [amount, Bool.cond_eq_ite, beq_iff_eq]
  split
  · rfl
  · split
    · rfl
    · split
      · rfl
      · split <;> rfl

theorem mul_between {n r N R : Int} (h1 : -N ≤ n) (h2 : n ≤ N) (h3 : 0 ≤ r) (h4 : r ≤ R) (hN : 0 ≤ N) : -(N * R) ≤ n * r ∧ n * r ≤ N * R := by
  have a1 : n * r ≤ N * r := Int.mul_le_mul_of_nonneg_right h2 h3
  have a2 : N * r ≤ N * R := Int.mul_le_mul_of_nonneg_left h4 hN
  have a3 : -N * r ≤ n * r := Int.mul_le_mul_of_nonneg_right h1 h3
  rw [Int.neg_mul] at a3
  omega

theorem tdiv_in {x y : Int} (h : -9223372036854775808 ≤ x ∧ x ≤ 9223372036854775807) (hy : 1 ≤ y) : IntKind.i64.wrap (Int.tdiv x y) = Int.tdiv x y := IntWalk.i64_quo' x y ⟨h.1, h.2, hy⟩

theorem said24 : Said24 := by
  intro n r _
  rw [e24]
  simp only [ofOK, part, Bool.cond_eq_ite, Bool.and_eq_true, decide_eq_true_eq]
  by_cases h1 : n < -400000000000
  · rw [if_pos h1, if_neg (by omega)]
  rw [if_neg h1]
  by_cases h2 : n > 400000000000
  · rw [if_pos h2, if_neg (by omega)]
  rw [if_neg h2]
  by_cases h3 : r < 0
  · rw [if_pos h3, if_neg (by omega)]
  rw [if_neg h3]
  by_cases h4 : r > 10000000
  · rw [if_pos h4, if_neg (by omega)]
  rw [if_neg h4]
  have hm := mul_between (n := 2 * n) (r := r) (N := 800000000000) (R := 10000000) (by omega) (by omega) (by omega) (by omega) (by omega)
  rw [IntWalk.i64_in (2 * n) (by omega), IntWalk.i64_in (2 * n * r) (by omega), IntWalk.i64_in (2 * n * r - 1000000) (by omega), IntWalk.i64_in (2 * n * r + 1000000) (by omega), tdiv_in (by omega) (by omega), tdiv_in (by omega) (by omega)]
  by_cases h5 : n < 0
  · rw [if_pos h5, if_pos ⟨⟨⟨by omega, by omega⟩, by omega⟩, by omega⟩, if_pos h5]
  · rw [if_neg h5, if_pos ⟨⟨⟨by omega, by omega⟩, by omega⟩, by omega⟩, if_neg h5]

theorem money_iff {n : Int} : money n = true ↔ -100000000000 ≤ n ∧ n ≤ 100000000000 := by simp [money]
theorem rightR_iff {n : Int} : rightR n = true ↔ 0 ≤ n ∧ n ≤ 1000000 := by simp [rightR]

theorem said37 : Said37 := by
  intro n r _
  rw [e37]
  simp only [floorOK, floorP, Bool.cond_eq_ite, Bool.and_eq_true, decide_eq_true_eq, Bool.not_eq_true', Bool.not_eq_eq_eq_not, Bool.not_true]
  by_cases h1 : money n = true
  · rw [if_neg (by simp [h1])]
    by_cases h2 : n < 0
    · rw [if_pos h2, if_neg (by omega)]
    · rw [if_neg h2]
      by_cases h3 : rightR r = true
      · rw [if_neg (by simp [h3]), if_pos ⟨⟨h1, by omega⟩, h3⟩]
        rw [money_iff] at h1
        rw [rightR_iff] at h3
        have hm := mul_between (n := n) (r := r) (N := 100000000000) (R := 1000000) (by omega) (by omega) (by omega) (by omega) (by omega)
        rw [IntWalk.i64_in (n * r) (by omega), tdiv_in (by omega) (by omega)]
      · rw [if_pos (by simpa using h3), if_neg (fun h => h3 h.2)]
  · rw [if_pos (by simpa using h1), if_neg (fun h => h1 h.1.1)]

theorem said21 : Said21 := by
  intro income most _
  rw [e21]
  simp only [roomP, Bool.cond_eq_ite, decide_eq_true_eq]
  by_cases h1 : income < 1
  · rw [if_pos h1, if_pos h1]
  · rw [if_neg h1, if_neg h1]
    by_cases h2 : floorOK income most = true
    · rw [if_pos h2, if_pos h2]
    · rw [if_neg h2, if_neg h2]

theorem said16 : Said16 := by
  intro book perm moved _
  rw [e16]
  by_cases h1 : money moved = true
  · have h1' := money_iff.1 h1
    rw [IntWalk.i64_in (0 - moved) (by omega)]
    have e1 : sumOK [book, perm, 0 - moved] = incomeOK book perm moved := by
      have : money (0 - moved) = true := money_iff.2 (by omega)
      have e2 : book + (perm + (0 - moved)) = book + perm - moved := by omega
      simp only [sumOK, incomeOK, List.all_cons, List.all_nil, List.sum_cons, List.sum_nil, Int.add_zero, e2, h1, this, Bool.and_true, Bool.true_and]
    have e3 : sumI [book, perm, 0 - moved] = incomeP book perm moved := by
      simp only [sumI, incomeP, List.sum_cons, List.sum_nil]; omega
    rw [e1, e3, h1]
    simp only [Bool.not_true, cond_false, List.length_cons, List.length_nil, Bool.cond_eq_ite]
    cases incomeOK book perm moved <;> rfl
  · have : incomeOK book perm moved = false := by simp [incomeOK, h1]
    rw [this]
    simp only [Bool.not_eq_true] at h1
    rw [h1]
    rfl

theorem said10 : Said10 := by
  intro _
  rw [e10]

end Go.Proofs.Ytbnmmfjdbdbldaa

/-
  The functions with a loop compute what Pure says.
-/
namespace Go.Proofs.Ytbnmmfjdbdbldaa
open Go.Abs

section
variable {X : Type} {xs : List X} {i : Nat} {x : X}
theorem lt_len (hx : xs[i]? = some x) : decide ((i : Int) < ((xs.length : Nat) : Int)) = true := by
  have := (List.getElem?_eq_some_iff.1 hx).1
  exact decide_eq_true (by omega)
theorem nn (i : Nat) : decide ((0 : Int) ≤ (i : Int)) = true := decide_eq_true (by omega)
theorem elt_at (hx : xs[i]? = some x) : elt xs (i : Int).toNat = some x := by simp [elt, hx]
theorem end_len (n : Nat) : decide ((n : Int) < (n : Int)) = false := decide_eq_false (by omega)
theorem succ_i (h : xs.length ≤ 1000000) (hx : xs[i]? = some x) : IntKind.i64.wrap ((i : Int) + 1) = ((i + 1 : Nat) : Int) := by
  have := (List.getElem?_eq_some_iff.1 hx).1
  rw [IntWalk.i64_in _ (by omega)]; omega
end

/-! sums -/
theorem left_cons (v : Vintage) (l : List Vintage) : left (v :: l) = v.Left + left l := by simp [left]
theorem left_nil : left [] = 0 := rfl
theorem left_append (a b : List Vintage) : left (a ++ b) = left a + left b := by simp [left]
theorem left_fold : ∀ (l : List Vintage) (a : Int), l.foldl (fun a x => a + x.Left) a = a + left l
  | [], a => by simp [left]
  | v :: l, a => by rw [List.foldl_cons, left_fold l, left_cons]; omega

theorem wfL_iff {l : List Vintage} : wfL l = true ↔ l.length ≤ 12 ∧ (∀ v ∈ l, 0 ≤ v.Left ∧ v.Left ≤ 100000000000) ∧ left l ≤ 100000000000 ∧ sortedL l = true := by
  simp only [wfL, Bool.and_eq_true, decide_eq_true_eq, List.all_eq_true, and_assoc]

theorem left_nonneg {l : List Vintage} (h : ∀ v ∈ l, 0 ≤ v.Left ∧ v.Left ≤ 100000000000) : 0 ≤ left l := by
  induction l with
  | nil => simp [left]
  | cons v l ih =>
    rw [left_cons]
    have := (h v (by simp)).1
    have := ih fun u hu => h u (by simp [hu])
    omega

theorem left_take {l : List Vintage} (h : ∀ v ∈ l, 0 ≤ v.Left ∧ v.Left ≤ 100000000000) (i : Nat) : 0 ≤ left (l.take i) ∧ left (l.take i) ≤ left l := by
  have h1 := left_nonneg (l := l.take i) fun v hv => h v (List.mem_of_mem_take hv)
  have h2 := left_nonneg (l := l.drop i) fun v hv => h v (List.mem_of_mem_drop hv)
  have h3 : left l = left (l.take i) + left (l.drop i) := by rw [← left_append, List.take_append_drop]
  omega

theorem fold_at {l : List Vintage} (hw : wfL l = true) {i : Nat} {x : Vintage} (hx : l[i]? = some x) : IntKind.i64.wrap ((l.take i).foldl (fun a x => a + x.Left) 0 + x.Left) = (l.take i).foldl (fun a x => a + x.Left) 0 + x.Left := by
  obtain ⟨h1, h2, h3, h4⟩ := wfL_iff.1 hw
  have h5 := left_take h2 i
  have h6 := h2 x (List.mem_of_getElem? hx)
  rw [left_fold]
  exact IntWalk.i64_in _ (by omega)

theorem said9 : Said9 := by
  intro l hw
  obtain ⟨h1, h2, h3, h4⟩ := wfL_iff.1 hw
  rw [e9, lp9_0]
  refine (Cfg.loop_fold (cfg9 fu0) 3 9 _ l.l (fun a i => S9_0 a (l.l.length : Nat) (i : Nat) l.l) (fun a x => a + x.Left) 0 (.exit 0) (fun a => S9_0a a (l.l.length : Nat) (l.l.length : Nat) l.l) ?_ ?_ _ _ (by omega)).trans ?_
  · intro i x hx K1 K2
    rw [r9_0]
    simp only [lt_len hx, nn, cond_true, elt_at hx]
    rw [succ_i (by omega) hx, fold_at hw hx]
  · intro K1 K2
    rw [r9_0]
    simp only [end_len, cond_false]
  · rw [c9_0a, left_fold, Int.zero_add]

theorem said34 : Said34 := by
  intro l hw
  obtain ⟨h1, h2, h3, h4⟩ := wfL_iff.1 hw
  rw [e34, lp34_0]
  refine (Cfg.loop_fold (cfg34 fu0) 3 34 _ l.V (fun a i => S34_0 a (l.V.length : Nat) (i : Nat) l.V) (fun a x => a + x.Left) 0 (.exit 0) (fun a => S34_0a a (l.V.length : Nat) (l.V.length : Nat) l.V) ?_ ?_ _ _ (by omega)).trans ?_
  · intro i x hx K1 K2
    rw [r34_0]
    simp only [lt_len hx, nn, cond_true, elt_at hx]
    rw [succ_i (by omega) hx, fold_at hw hx]
  · intro K1 K2
    rw [r34_0]
    simp only [end_len, cond_false]
  · rw [c34_0a, left_fold, Int.zero_add]

/-! sums of numbers -/
theorem sum_fold : ∀ (l : List Int) (a : Int), l.foldl (fun a x => a + x) a = a + l.sum
  | [], a => by simp
  | v :: l, a => by rw [List.foldl_cons, sum_fold l, List.sum_cons]; omega

theorem small_iff {n : Int} : small n = true ↔ -1000000000000 ≤ n ∧ n ≤ 1000000000000 := by simp [small]
theorem sum_small : ∀ {l : List Int}, (∀ x ∈ l, -1000000000000 ≤ x ∧ x ≤ 1000000000000) → -1000000000000 * (l.length : Int) ≤ l.sum ∧ l.sum ≤ 1000000000000 * (l.length : Int)
  | [], _ => by simp
  | x :: l, h => by
    have h1 := h x (by simp)
    have h2 := sum_small (l := l) fun y hy => h y (by simp [hy])
    rw [List.sum_cons, List.length_cons]
    omega

theorem said22 : Said22 := by
  intro v hp
  simp only [Bool.and_eq_true, decide_eq_true_eq, allSmall, List.all_eq_true] at hp
  obtain ⟨h1, h2⟩ := hp
  have h1 : v.length ≤ 1000 := h1
  rw [e22, lp22_0]
  refine (Cfg.loop_fold (cfg22 fu0) 3 22 _ v (fun a i => S22_0 a v (v.length : Nat) (i : Nat)) (fun a x => a + x) 0 (.exit 0) (fun a => S22_0a a v (v.length : Nat) (v.length : Nat)) ?_ ?_ _ _ (by omega)).trans ?_
  · intro i x hx K1 K2
    rw [r22_0]
    simp only [lt_len hx, nn, cond_true, elt_at hx]
    have hb := sum_small (l := v.take i) fun y hy => small_iff.1 (h2 y (List.mem_of_mem_take hy))
    have hl : (v.take i).length ≤ 1000 := by rw [List.length_take]; omega
    have hx' := small_iff.1 (h2 x (List.mem_of_getElem? hx))
    rw [succ_i (by omega) hx, IntWalk.i64_in _ (by rw [sum_fold]; omega)]
  · intro K1 K2
    rw [r22_0]
    simp only [end_len, cond_false]
  · rw [c22_0a, sum_fold, Int.zero_add]
    rfl

theorem said20 : Said20 := by
  intro l hw
  rw [e20]
  have := (wfL_iff.1 hw).1
  have d : decide (l.l.length ≤ 1000) = true := decide_eq_true (by omega)
  rw [d]; rfl

theorem said17 : Said17 := by
  intro l hw
  rw [e17, hw]; rfl

end Go.Proofs.Ytbnmmfjdbdbldaa

/-
  More functions with a loop compute what Pure says.
-/
namespace Go.Proofs.Ytbnmmfjdbdbldaa
open Go.Abs

/-! a sum of amounts that may be -/
/-- The sum's rounds. -/
def sumStep (a : Int) (_ : Nat) (x : Int) (r : Ex × St) : Int ⊕ (Ex × St) := if money x then .inl (a + x) else .inr r

theorem sum_walk (l0 : List Int) (R : Int → Nat → Ex × St) (F : Int → Ex × St) : ∀ (l : List Int) (a : Int) (i : Nat), (l.all money = true ∧ walk (fun a i x => sumStep a i x (R a i)) F a i l = F (a + l.sum)) ∨ (l.all money = false ∧ ∃ b j, walk (fun a i x => sumStep a i x (R a i)) F a i l = R b j)
  | [], a, i => .inl ⟨rfl, by simp [walk]⟩
  | x :: l, a, i => by
    by_cases hx : money x = true
    · rcases sum_walk l0 R F l (a + x) (i + 1) with ⟨h1, h2⟩ | ⟨h1, b, j, h2⟩
      · refine .inl ⟨by simp [hx, h1], ?_⟩
        rw [walk, show sumStep a i x (R a i) = .inl (a + x) from by simp [sumStep, hx]]
        simp only
        rw [h2, List.sum_cons, Int.add_assoc]
      · refine .inr ⟨by simp [hx, h1], b, j, ?_⟩
        rw [walk, show sumStep a i x (R a i) = .inl (a + x) from by simp [sumStep, hx]]
        exact h2
    · refine .inr ⟨by simp [hx], a, i, ?_⟩
      rw [walk, show sumStep a i x (R a i) = .inr (R a i) from by simp [sumStep, hx]]

theorem said35 : Said35 := by
  intro l hp
  have h1 : l.length ≤ 1000 := of_decide_eq_true hp
  rw [e35, lp35_0]
  refine (Cfg.loop_walk (cfg35 fu0) 3 35 _ l (fun a i => S35_0 a l (l.length : Nat) (i : Nat)) (fun a i x => sumStep a i x (.ret, S35_0a a l (l.length : Nat) (i : Nat))) (fun a => (.exit 0, S35_0b a l (l.length : Nat) (l.length : Nat)))
    (fun a i => -100000000000 * (i : Int) ≤ a ∧ a ≤ 100000000000 * (i : Int)) ?_ ?_ _ _ 0 0 (by simp) (by omega) (by omega)).trans ?_
  · intro a i x hi hx
    have hlt := (List.getElem?_eq_some_iff.1 hx).1
    intro K1 K2
    refine ⟨fun a' ha => ?_, ?_⟩
    · unfold sumStep at ha
      split at ha
      · rename_i hm
        have hm := money_iff.1 hm
        simp only [Sum.inl.injEq] at ha
        omega
      · simp at ha
    · rw [r35_0]
      simp only [lt_len hx, nn, cond_true, elt_at hx, sumStep]
      by_cases hm : money x = true
      · have hm' := money_iff.1 hm
        simp only [hm, Bool.not_true, cond_false, if_true]
        rw [succ_i (by omega) hx, IntWalk.i64_in _ (by omega)]
      · simp only [Bool.not_eq_true] at hm
        simp [hm]
  · intro a ha K1 K2
    rw [r35_0]
    simp only [end_len, cond_false]
  · rw [List.drop_zero]
    rcases sum_walk l (fun a i => (.ret, S35_0a a l (l.length : Nat) (i : Nat))) (fun a => (.exit 0, S35_0b a l (l.length : Nat) (l.length : Nat))) l 0 0 with ⟨h2, h3⟩ | ⟨h2, b, j, h3⟩
    · rw [h3]
      simp only [Int.zero_add]
      rw [c35_0b]
      simp only [sumOK, h2, Bool.true_and, sumI]
      cases money l.sum <;> rfl
    · rw [h3]
      simp only
      rw [c35_0a]
      simp only [sumOK, h2, Bool.false_and, cond_false]

/-! a vector of what is used -/
theorem vec_inv (year : Int) : ∀ (l : List Vintage) (a : Int × List Int) (M : Int), (∀ v ∈ l, 0 ≤ v.Left ∧ v.Left ≤ 100000000000) → 0 ≤ a.1 → a.1 ≤ M →
    0 ≤ (l.foldl (vecStep year) a).1 ∧ (l.foldl (vecStep year) a).1 ≤ M ∧ (l.foldl (vecStep year) a).2.length = a.2.length + l.length
  | [], a, M, _, h1, h2 => ⟨h1, h2, rfl⟩
  | v :: l, a, M, h, h1, h2 => by
    have hv := h v (by simp)
    rw [List.foldl_cons]
    have h3 : 0 ≤ (vecStep year a v).1 ∧ (vecStep year a v).1 ≤ M := by
      simp only [vecStep]
      split <;> omega
    have := vec_inv year l (vecStep year a v) M (fun u hu => h u (by simp [hu])) h3.1 h3.2
    refine ⟨this.1, this.2.1, ?_⟩
    rw [this.2.2]
    simp [vecStep]
    omega

theorem said19 : Said19 := by
  intro rows year room hp
  simp only [Bool.and_eq_true, decide_eq_true_eq] at hp
  obtain ⟨hw, hr⟩ := hp
  obtain ⟨h1, h2, h3, h4⟩ := wfL_iff.1 hw
  rw [e19, lp19_0]
  refine (Cfg.loop_fold (cfg19 fu0) 3 19 _ rows (fun (a : Int × List Int) i => S19_0 year a.1 rows (rows.length : Nat) (i : Nat) a.2 room) (vecStep year) (max 0 room, []) (.exit 0) (fun a => S19_0a year a.1 rows (rows.length : Nat) (rows.length : Nat) a.2 room) ?_ ?_ _ _ (by omega)).trans ?_
  · intro i x hx K1 K2
    have hlt := (List.getElem?_eq_some_iff.1 hx).1
    have hb := vec_inv year (rows.take i) (max 0 room, []) 1000000000000 (fun v hv => h2 v (List.mem_of_mem_take hv)) (by simp only; omega) (by simp only; omega)
    have hl : (rows.take i).length ≤ 12 := by rw [List.length_take]; omega
    generalize (rows.take i).foldl (vecStep year) (max 0 room, []) = a at hb
    have hx' := h2 x (List.mem_of_getElem? hx)
    have hfit : decide ((a.2.length + 1) * 8 ≤ 140737488355328) = true := decide_eq_true (by simp at hb; omega)
    rw [r19_0]
    simp only [lt_len hx, nn, cond_true, elt_at hx, hfit]
    rw [succ_i (by omega) hx, IntWalk.i64_in (a.1 - min x.Left a.1) (by omega), IntWalk.i64_in (a.1 - 0) (by omega)]
    simp only [vecStep, Bool.cond_eq_ite, decide_eq_true_eq]
    split <;> rfl
  · intro K1 K2
    rw [r19_0]
    simp only [end_len, cond_false]
  · rw [c19_0a]
    rfl

end Go.Proofs.Ytbnmmfjdbdbldaa

/-
  Losses in plain Lean: a loss more, in order.
-/
namespace Go.Proofs.Ytbnmmfjdbdbldaa
open Go.Abs

theorem p_left_cons (v : Vintage) (l : List Vintage) : left (v :: l) = v.Left + left l := by simp [left]
theorem p_left_append (a b : List Vintage) : left (a ++ b) = left a + left b := by simp [left]

theorem sortedL_iff : ∀ {l : List Vintage}, sortedL l = true ↔ l.Pairwise fun a b => ltV a b = true
  | [] => by simp [sortedL]
  | v :: l => by simp only [sortedL, Bool.and_eq_true, List.all_eq_true, List.pairwise_cons, sortedL_iff (l := l)]

theorem ltV_iff {a b : Vintage} : ltV a b = true ↔ a.Expiry < b.Expiry ∨ a.Expiry = b.Expiry ∧ a.Origin < b.Origin := by simp [ltV]
theorem sameKey_iff {o e : Int} {v : Vintage} : sameKey o e v = true ↔ v.Origin = o ∧ v.Expiry = e := by simp [sameKey]

/-- A loss, where it belongs. -/
def insR (o e n : Int) : List Vintage → List Vintage
  | [] => [⟨o, e, n⟩]
  | v :: l => if sameKey o e v then ⟨v.Origin, v.Expiry, v.Left + n⟩ :: l else if ltV ⟨o, e, 0⟩ v then ⟨o, e, n⟩ :: v :: l else v :: insR o e n l

theorem insStep_true {o e n : Int} : ∀ (l acc : List Vintage), (∀ v ∈ l, sameKey o e v = false) → l.foldl (insStep o e n) (acc, true) = (acc ++ l, true)
  | [], acc, _ => by simp
  | v :: l, acc, h => by
    have h1 := h v (by simp)
    rw [List.foldl_cons, show insStep o e n (acc, true) v = (acc ++ [v], true) by simp [insStep, h1], insStep_true l _ fun u hu => h u (by simp [hu])]
    simp

theorem behind_new {o e : Int} {v : Vintage} {l : List Vintage} (h : ∀ u ∈ l, ltV v u = true) (hv : sameKey o e v = true ∨ ltV ⟨o, e, 0⟩ v = true) : ∀ u ∈ l, sameKey o e u = false := by
  intro u hu
  rw [← Bool.not_eq_true]
  intro hs
  have h1 := ltV_iff.1 (h u hu)
  have h2 := sameKey_iff.1 hs
  rcases hv with hv | hv
  · have h3 := sameKey_iff.1 hv
    omega
  · have h3 := ltV_iff.1 hv
    simp only at h3
    omega

theorem ins_fold {o e n : Int} : ∀ (l acc : List Vintage), sortedL l = true →
    (let a := l.foldl (insStep o e n) (acc, false); if a.2 then a.1 else a.1 ++ [⟨o, e, n⟩]) = acc ++ insR o e n l
  | [], acc, _ => by simp [insR]
  | v :: l, acc, h => by
    simp only [sortedL, Bool.and_eq_true, List.all_eq_true] at h
    rw [List.foldl_cons]
    by_cases hs : sameKey o e v = true
    · rw [show insStep o e n (acc, false) v = (acc ++ [⟨v.Origin, v.Expiry, v.Left + n⟩], true) by simp [insStep, hs], insStep_true l _ (behind_new h.1 (.inl hs))]
      simp [insR, hs]
    · by_cases hl : ltV ⟨o, e, 0⟩ v = true
      · have hx := ltV_iff.1 hl
        simp only at hx
        have : (decide (v.Expiry > e) || decide (v.Expiry = e) && decide (v.Origin > o)) = true := by simp; omega
        rw [show insStep o e n (acc, false) v = (acc ++ [⟨o, e, n⟩] ++ [v], true) by simp only [insStep, hs, this]; simp, insStep_true l _ (behind_new h.1 (.inr hl))]
        simp [insR, hs, hl]
      · have hx : ¬ _ := fun x => hl (ltV_iff.2 x)
        simp only at hx
        have : (decide (v.Expiry > e) || decide (v.Expiry = e) && decide (v.Origin > o)) = false := by simp; omega
        rw [show insStep o e n (acc, false) v = (acc ++ [v], false) by simp only [insStep, hs, this]; simp, ins_fold l (acc ++ [v]) h.2]
        simp [insR, hs, hl]

theorem ins_eq {l : List Vintage} {o e n : Int} (h : sortedL l = true) : ins l o e n = insR o e n l := by
  have := ins_fold (o := o) (e := e) (n := n) l [] h
  simpa [ins] using this

theorem left_insR (o e n : Int) : ∀ l : List Vintage, left (insR o e n l) = left l + n
  | [] => by simp [insR, left]
  | v :: l => by
    unfold insR
    split
    · simp only [p_left_cons]; omega
    · split
      · simp only [p_left_cons]; omega
      · simp only [p_left_cons, left_insR o e n l]; omega

theorem length_insR (o e n : Int) : ∀ l : List Vintage, (insR o e n l).length ≤ l.length + 1
  | [] => by simp [insR]
  | v :: l => by
    unfold insR
    split
    · simp
    · split
      · simp
      · have := length_insR o e n l; simp; omega

/-- What may be said of each of the keys holds behind it too. -/
theorem insR_all {o e n : Int} (p : Vintage → Prop) (hn : ∀ k, p ⟨o, e, k⟩) (hk : ∀ (v : Vintage) k, p v → p ⟨v.Origin, v.Expiry, k⟩) : ∀ l : List Vintage, (∀ v ∈ l, p v) → ∀ v ∈ insR o e n l, p v
  | [], _, v, hv => by
    simp [insR] at hv; subst hv; exact hn n
  | u :: l, h, v, hv => by
    unfold insR at hv
    split at hv
    · rcases List.mem_cons.1 hv with rfl | hv
      · exact hk u _ (h u (by simp))
      · exact h v (by simp [hv])
    · split at hv
      · rcases List.mem_cons.1 hv with rfl | hv
        · exact hn n
        · exact h v hv
      · rcases List.mem_cons.1 hv with rfl | hv
        · exact h _ (by simp)
        · exact insR_all p hn hk l (fun w hw => h w (by simp [hw])) v hv

theorem sorted_insR {o e n : Int} : ∀ {l : List Vintage}, sortedL l = true → sortedL (insR o e n l) = true
  | [], _ => by simp [insR, sortedL]
  | v :: l, h => by
    have h' := h
    simp only [sortedL, Bool.and_eq_true, List.all_eq_true] at h
    unfold insR
    split
    · rename_i hs
      simp only [sortedL, Bool.and_eq_true, List.all_eq_true]
      exact ⟨fun u hu => by have := ltV_iff.1 (h.1 u hu); exact ltV_iff.2 this, h.2⟩
    · rename_i hs
      split
      · rename_i hl
        simp only [sortedL, Bool.and_eq_true, List.all_eq_true]
        refine ⟨fun u hu => ?_, h⟩
        have h1 := ltV_iff.1 hl
        rcases List.mem_cons.1 hu with rfl | hu
        · exact ltV_iff.2 h1
        · have h2 := ltV_iff.1 (h.1 u hu)
          refine ltV_iff.2 ?_
          simp only at h1 ⊢
          omega
      · rename_i hl
        simp only [sortedL, Bool.and_eq_true, List.all_eq_true]
        refine ⟨insR_all (fun u => ltV v u = true) (fun k => ?_) (fun u k hu => ltV_iff.2 (ltV_iff.1 hu)) l h.1, sorted_insR h.2⟩
        have h1 : ¬ _ := fun x => hs (sameKey_iff.2 x)
        have h2 : ¬ _ := fun x => hl (ltV_iff.2 x)
        refine ltV_iff.2 ?_
        simp only at h1 h2 ⊢
        omega

theorem p_wfL {l : List Vintage} : wfL l = true ↔ l.length ≤ 12 ∧ (∀ v ∈ l, 0 ≤ v.Left ∧ v.Left ≤ 100000000000) ∧ left l ≤ 100000000000 ∧ sortedL l = true := by
  simp only [wfL, Bool.and_eq_true, decide_eq_true_eq, List.all_eq_true, and_assoc]

theorem p_left_nonneg : ∀ {l : List Vintage}, (∀ v ∈ l, 0 ≤ v.Left ∧ v.Left ≤ 100000000000) → 0 ≤ left l
  | [], _ => by simp [left]
  | v :: l, h => by
    rw [p_left_cons]
    have := (h v (by simp)).1
    have := p_left_nonneg (l := l) fun u hu => h u (by simp [hu])
    omega

/-- Each is at most the sum. -/
theorem le_left : ∀ {l : List Vintage}, (∀ v ∈ l, 0 ≤ v.Left) → ∀ v ∈ l, v.Left ≤ left l
  | [], _, v, hv => by simp at hv
  | u :: l, h, v, hv => by
    rw [p_left_cons]
    have h0 : 0 ≤ left l := by
      clear hv
      induction l with
      | nil => simp [left]
      | cons w l ih =>
        rw [p_left_cons]
        have := h w (by simp)
        have := ih (fun x hx => h x (by rcases List.mem_cons.1 hx with rfl | hx <;> simp [*]))
        omega
    rcases List.mem_cons.1 hv with rfl | hv
    · omega
    · have h1 := le_left (l := l) (fun w hw => h w (by simp [hw])) v hv
      have := h u (by simp)
      omega

theorem insR_lefts {o e n : Int} (hn : 0 ≤ n) : ∀ {l : List Vintage}, (∀ v ∈ l, 0 ≤ v.Left) → ∀ v ∈ insR o e n l, 0 ≤ v.Left
  | [], _, v, hv => by simp [insR] at hv; subst hv; exact hn
  | u :: l, h, v, hv => by
    unfold insR at hv
    split at hv
    · rcases List.mem_cons.1 hv with rfl | hv
      · have := h u (by simp); simp only; omega
      · exact h v (by simp [hv])
    · split at hv
      · rcases List.mem_cons.1 hv with rfl | hv
        · exact hn
        · exact h v hv
      · rcases List.mem_cons.1 hv with rfl | hv
        · exact h _ (by simp)
        · exact insR_lefts hn (fun w hw => h w (by simp [hw])) v hv

theorem wf_insR {l : List Vintage} {o e n : Int} (h : wfL l = true) (hn : 0 ≤ n) (hs : left l + n ≤ 100000000000) (hl : (insR o e n l).length ≤ 12) : wfL (insR o e n l) = true := by
  obtain ⟨h1, h2, h3, h4⟩ := p_wfL.1 h
  have h5 := insR_lefts (o := o) (e := e) hn fun v hv => (h2 v hv).1
  have h6 := left_insR o e n l
  refine p_wfL.2 ⟨hl, fun v hv => ⟨h5 v hv, ?_⟩, by omega, sorted_insR h4⟩
  have := le_left h5 v hv
  omega

/-! the program's way -/
theorem addTo_insR {o e n : Int} : ∀ {l : List Vintage}, sortedL l = true → l.any (sameKey o e) = true → addTo l o e n = insR o e n l
  | [], _, h => by simp at h
  | v :: l, h, ha => by
    simp only [sortedL, Bool.and_eq_true, List.all_eq_true] at h
    unfold insR
    by_cases hs : sameKey o e v = true
    · rw [if_pos hs]
      have hb := behind_new h.1 (.inl hs)
      simp only [addTo, List.map_cons, if_pos hs]
      congr 1
      rw [List.map_congr_left (g := id) fun u hu => by simp [hb u hu]]
      simp
    · rw [if_neg hs]
      have ha' : l.any (sameKey o e) = true := by
        simp only [List.any_cons, Bool.or_eq_true] at ha
        exact ha.resolve_left hs
      have hl : ¬ ltV ⟨o, e, 0⟩ v = true := fun hl => by
        have hb := behind_new h.1 (.inr hl)
        rw [List.any_eq_true] at ha'
        obtain ⟨u, hu, hk⟩ := ha'
        rw [hb u hu] at hk
        simp at hk
      rw [if_neg hl]
      simp only [addTo, List.map_cons, if_neg hs]
      congr 1
      exact addTo_insR h.2 ha'

theorem leV_iff {a b : Vintage} : leV a b = true ↔ a.Expiry < b.Expiry ∨ a.Expiry = b.Expiry ∧ a.Origin ≤ b.Origin := by simp [leV]

theorem leV_trans (a b c : Vintage) (h1 : leV a b = true) (h2 : leV b c = true) : leV a c = true := by
  have := leV_iff.1 h1; have := leV_iff.1 h2
  exact leV_iff.2 (by omega)
theorem leV_total (a b : Vintage) : (leV a b || leV b a) = true := by
  rw [Bool.or_eq_true, leV_iff, leV_iff]; omega

theorem insR_perm {o e n : Int} : ∀ {l : List Vintage}, l.any (sameKey o e) = false → (insR o e n l).Perm (l ++ [⟨o, e, n⟩])
  | [], _ => by simp [insR]
  | v :: l, h => by
    simp only [List.any_cons, Bool.or_eq_false_iff] at h
    unfold insR
    rw [if_neg (by simp [h.1])]
    split
    · exact (List.perm_append_comm (l₁ := [⟨o, e, n⟩]) (l₂ := v :: l))
    · exact (insR_perm h.2).cons v

/-- Two of the same key among different keys are one. -/
theorem distinct_eq : ∀ {l : List Vintage}, distinct l = true → ∀ a ∈ l, ∀ b ∈ l, sameKey a.Origin a.Expiry b = true → a = b
  | [], _, a, ha, _, _, _ => by simp at ha
  | v :: l, h, a, ha, b, hb, hk => by
    simp only [distinct, Bool.and_eq_true, Bool.not_eq_true'] at h
    have hno : ∀ u ∈ l, sameKey v.Origin v.Expiry u = false := fun u hu => by
      have := h.1
      rw [List.any_eq_false] at this
      simpa using this u hu
    have hk' := sameKey_iff.1 hk
    rcases List.mem_cons.1 ha with rfl | ha1 <;> rcases List.mem_cons.1 hb with rfl | hb1
    · rfl
    · rw [hno b hb1] at hk; simp at hk
    · have := hno a ha1
      rw [show sameKey b.Origin b.Expiry a = true from sameKey_iff.2 ⟨hk'.1.symm, hk'.2.symm⟩] at this
      simp at this
    · exact distinct_eq h.2 a ha1 b hb1 hk

theorem sorted_distinct : ∀ {l : List Vintage}, sortedL l = true → distinct l = true
  | [], _ => rfl
  | v :: l, h => by
    simp only [sortedL, Bool.and_eq_true, List.all_eq_true] at h
    simp only [distinct, Bool.and_eq_true, Bool.not_eq_true', List.any_eq_false]
    refine ⟨fun u hu hk => ?_, sorted_distinct h.2⟩
    have := ltV_iff.1 (h.1 u hu)
    have := sameKey_iff.1 hk
    omega

theorem distinct_snoc {o e n : Int} : ∀ {l : List Vintage}, distinct l = true → l.any (sameKey o e) = false → distinct (l ++ [⟨o, e, n⟩]) = true
  | [], _, _ => by simp [distinct]
  | v :: l, h, ha => by
    simp only [distinct, Bool.and_eq_true, Bool.not_eq_true'] at h
    simp only [List.any_cons, Bool.or_eq_false_iff] at ha
    simp only [List.cons_append, distinct, Bool.and_eq_true, Bool.not_eq_true', List.any_append, List.any_cons, List.any_nil, Bool.or_false, Bool.or_eq_false_iff]
    refine ⟨⟨h.1, ?_⟩, distinct_snoc h.2 ha.2⟩
    rw [← Bool.not_eq_true]
    intro hk
    have := sameKey_iff.1 hk
    have h2 : ¬ _ := fun x => by have := ha.1; rw [sameKey_iff.2 x] at this; simp at this
    simp only at this
    omega

theorem sort_insR {l : List Vintage} {o e n : Int} (h : sortedL l = true) (ha : l.any (sameKey o e) = false) : sortV (l ++ [⟨o, e, n⟩]) = insR o e n l := by
  have hd := distinct_snoc (n := n) (sorted_distinct h) ha
  refine List.Perm.eq_of_pairwise (le := fun a b => leV a b = true) (fun a b ha' hb' h1 h2 => ?_) (List.pairwise_mergeSort leV_trans leV_total _) ?_ ((List.mergeSort_perm _ _).trans (insR_perm ha).symm)
  · have hp := List.mergeSort_perm (l ++ [⟨o, e, n⟩]) leV
    have hp2 := insR_perm (n := n) ha
    refine distinct_eq hd a ((hp.mem_iff).1 ha') b ((hp2.mem_iff).1 hb') ?_
    have := leV_iff.1 h1; have := leV_iff.1 h2
    exact sameKey_iff.2 (by omega)
  · refine (sortedL_iff.1 (sorted_insR h)).imp fun {a b} hab => ?_
    have := ltV_iff.1 hab
    exact leV_iff.2 (by omega)

/-- The program's way is the document's. -/
theorem addP_eq {l : List Vintage} {o e n : Int} (h : sortedL l = true) : addP l o e n = if addE l o e n = 0 then insR o e n l else l := by
  unfold addP
  split
  · split
    · rename_i ha; exact addTo_insR h ha
    · rename_i ha; exact sort_insR h (by simpa using ha)
  · rfl

end Go.Proofs.Ytbnmmfjdbdbldaa

/-
  The tax of a period in plain Lean: what expires, is used, is new.
-/
namespace Go.Proofs.Ytbnmmfjdbdbldaa
open Go.Abs

theorem p_money {n : Int} : money n = true ↔ -100000000000 ≤ n ∧ n ≤ 100000000000 := by simp [money]
theorem p_rightR {n : Int} : rightR n = true ↔ 0 ≤ n ∧ n ≤ 1000000 := by simp [rightR]
theorem p_yearR {n : Int} : yearR n = true ↔ 0 ≤ n ∧ n ≤ 99 := by simp [yearR]

/-! what expires -/
theorem gone_still (l : List Vintage) (y : Int) : left l = gone l y + left (still l y) := by
  unfold gone still
  rw [← p_left_append, List.takeWhile_append_dropWhile]

theorem still_suffix (l : List Vintage) (y : Int) : still l y <:+ l := List.dropWhile_suffix _

theorem sorted_suffix {a b : List Vintage} (h : a <:+ b) (hb : sortedL b = true) : sortedL a = true :=
  sortedL_iff.2 ((sortedL_iff.1 hb).sublist h.sublist)

theorem still_wf {l : List Vintage} (h : wfL l = true) (y : Int) : wfL (still l y) = true ∧ 0 ≤ gone l y := by
  obtain ⟨h1, h2, h3, h4⟩ := p_wfL.1 h
  have hs := still_suffix l y
  have hm : ∀ v ∈ still l y, 0 ≤ v.Left ∧ v.Left ≤ 100000000000 := fun v hv => h2 v (hs.subset hv)
  have hg : 0 ≤ gone l y := p_left_nonneg fun v hv => h2 v (List.takeWhile_subset _ hv)
  have hgs := gone_still l y
  refine ⟨p_wfL.2 ⟨?_, hm, by omega, sorted_suffix hs h4⟩, hg⟩
  have := hs.length_le
  omega

/-! what is used -/
def okP (p : Vintage × Int) : Bool := decide (0 ≤ p.2) && decide (p.2 ≤ p.1.Left)

theorem vec_facts (year : Int) : ∀ (l : List Vintage) (a : Int × List Int), (∀ v ∈ l, 0 ≤ v.Left ∧ v.Left ≤ 100000000000) → 0 ≤ a.1 →
    ∃ us, (l.foldl (vecStep year) a).2 = a.2 ++ us ∧ us.length = l.length ∧ (l.zip us).all okP = true ∧ us.sum = a.1 - (l.foldl (vecStep year) a).1 ∧ 0 ≤ (l.foldl (vecStep year) a).1 ∧ (l.foldl (vecStep year) a).1 ≤ a.1
  | [], a, _, h => ⟨[], by simp, rfl, rfl, by simp, h, Int.le_refl _⟩
  | v :: l, a, h, ha => by
    have hv := h v (by simp)
    let n := if v.Expiry ≥ year then min v.Left a.1 else 0
    have hn : 0 ≤ n ∧ n ≤ v.Left ∧ n ≤ a.1 := by simp only [n]; split <;> omega
    have hst : vecStep year a v = (a.1 - n, a.2 ++ [n]) := rfl
    obtain ⟨us, u1, u2, u3, u4, u5, u6⟩ := vec_facts year l (vecStep year a v) (fun u hu => h u (by simp [hu])) (by rw [hst]; simp only; omega)
    rw [List.foldl_cons]
    refine ⟨n :: us, by rw [u1, hst]; simp, by simp [u2], ?_, ?_, u5, ?_⟩
    · simp only [List.zip_cons_cons, List.all_cons, Bool.and_eq_true]
      exact ⟨by simp [okP, hn.1, hn.2.1], u3⟩
    · rw [List.sum_cons, u4, hst]; simp only; omega
    · rw [hst] at u6; rw [hst]; simp only at u6; omega

theorem vector_facts {rows : List Vintage} (h : wfL rows = true) (year room : Int) : (vector rows year room).length = rows.length ∧ takeOK rows (vector rows year room) = true ∧ 0 ≤ (vector rows year room).sum ∧ (vector rows year room).sum ≤ max 0 room ∧ ∀ x ∈ vector rows year room, 0 ≤ x ∧ x ≤ 100000000000 := by
  obtain ⟨h1, h2, h3, h4⟩ := p_wfL.1 h
  obtain ⟨us, u1, u2, u3, u4, u5, u6⟩ := vec_facts year rows (max 0 room, []) h2 (by simp only; omega)
  have hv : vector rows year room = us := by unfold vector; rw [u1]; rfl
  rw [hv]
  refine ⟨u2, by simp only [takeOK, u2, Bool.and_eq_true, decide_true, true_and]; exact u3, by omega, by simp only at u4; omega, fun x hx => ?_⟩
  obtain ⟨i, hi, rfl⟩ := List.getElem_of_mem hx
  have hz : (rows.zip us)[i]? = some (rows[i]'(by omega), us[i]) := List.getElem?_zip_eq_some.2 ⟨List.getElem?_eq_getElem (by omega), List.getElem?_eq_getElem hi⟩
  have := List.all_eq_true.1 u3 _ (List.mem_of_getElem? hz)
  simp only [okP, Bool.and_eq_true, decide_eq_true_eq] at this
  have := h2 (rows[i]'(by omega)) (List.getElem_mem _)
  omega

/-! taken -/
theorem left_filter : ∀ l : List Vintage, left (l.filter isLeft) = left l
  | [] => rfl
  | v :: l => by
    rw [List.filter_cons]
    split
    · rw [p_left_cons, p_left_cons, left_filter l]
    · rename_i hv
      simp [isLeft] at hv
      rw [p_left_cons, left_filter l, hv]; omega

def takeE (p : Vintage × Int) : Vintage := ⟨p.1.Origin, p.1.Expiry, p.1.Left - p.2⟩

theorem left_take' : ∀ (l : List Vintage) (us : List Int), us.length = l.length → left ((l.zip us).map takeE) = left l - us.sum
  | [], us, h => by
    have : us = [] := by simpa using h
    subst this; simp [left]
  | v :: l, [], h => by simp at h
  | v :: l, u :: us, h => by
    simp only [List.zip_cons_cons, List.map_cons]
    rw [p_left_cons, p_left_cons, left_take' l us (by simpa using h), List.sum_cons]
    simp only [takeE]; omega

theorem takeP_eq (l : List Vintage) (us : List Int) : takeP l us = ((l.zip us).map takeE).filter isLeft := rfl

theorem takeP_wf {l : List Vintage} (h : wfL l = true) {us : List Int} (ht : takeOK l us = true) : wfL (takeP l us) = true ∧ left (takeP l us) = left l - us.sum := by
  obtain ⟨h1, h2, h3, h4⟩ := p_wfL.1 h
  simp only [takeOK, Bool.and_eq_true, decide_eq_true_eq] at ht
  obtain ⟨t1, t2⟩ := ht
  have hl : left (takeP l us) = left l - us.sum := by rw [takeP_eq, left_filter, left_take' l us t1]
  have hmem : ∀ v ∈ (l.zip us).map takeE, 0 ≤ v.Left ∧ v.Left ≤ 100000000000 := fun v hv => by
    obtain ⟨p, hp, rfl⟩ := List.mem_map.1 hv
    have h5 := List.all_eq_true.1 t2 p hp
    simp only [Bool.and_eq_true, decide_eq_true_eq] at h5
    have h6 := h2 p.1 (List.of_mem_zip hp).1
    simp only [takeE]
    omega
  have hnn : 0 ≤ us.sum := by
    have : ∀ (l : List Vintage) (us : List Int), us.length = l.length → (l.zip us).all (fun p => decide (0 ≤ p.2) && decide (p.2 ≤ p.1.Left)) = true → 0 ≤ us.sum := by
      intro l
      induction l with
      | nil => intro us hu _; have : us = [] := by simpa using hu
               subst this; simp
      | cons v l ih =>
        intro us hu ha
        cases us with
        | nil => simp
        | cons u us =>
          simp only [List.zip_cons_cons, List.all_cons, Bool.and_eq_true, decide_eq_true_eq] at ha
          have := ih us (by simpa using hu) ha.2
          rw [List.sum_cons]; omega
    exact this l us t1 t2
  refine ⟨p_wfL.2 ⟨?_, fun v hv => hmem v (List.mem_filter.1 hv).1, by omega, ?_⟩, hl⟩
  · rw [takeP_eq]
    have := List.length_filter_le isLeft ((l.zip us).map takeE)
    simp only [List.length_map, List.length_zip] at this
    omega
  · refine sortedL_iff.2 ((List.Pairwise.sublist List.filter_sublist) ?_)
    rw [List.pairwise_map]
    have : (l.zip us).Pairwise fun a b => ltV a.1 b.1 = true := by
      have e : ((l.zip us).map Prod.fst).Pairwise fun a b => ltV a b = true := by
        rw [List.map_fst_zip (by omega)]
        exact sortedL_iff.1 h4
      rwa [List.pairwise_map] at e
    exact this.imp fun {a b} hab => ltV_iff.2 (ltV_iff.1 hab)

/-! a part -/
theorem mul_le {n r N R : Int} (h1 : 0 ≤ n) (h2 : n ≤ N) (h3 : 0 ≤ r) (h4 : r ≤ R) : 0 ≤ n * r ∧ n * r ≤ N * R ∧ n * r ≤ n * R := by
  have a1 : n * r ≤ N * r := Int.mul_le_mul_of_nonneg_right h2 h3
  have a2 : N * r ≤ N * R := Int.mul_le_mul_of_nonneg_left h4 (by omega)
  have a3 : n * r ≤ n * R := Int.mul_le_mul_of_nonneg_left h4 h1
  have a4 : 0 ≤ n * r := Int.mul_nonneg h1 h3
  omega

theorem room_facts (income most : Int) (hm : 0 ≤ most ∧ most ≤ 1000000) (hi : income ≤ 100000000000) : 0 ≤ roomP income most ∧ roomP income most ≤ max 0 income ∧ (0 < income → roomP income most * 1000000 ≤ income * most) := by
  unfold roomP
  split
  · rename_i h; refine ⟨by omega, by omega, fun h' => by omega⟩
  · rename_i h
    rw [if_pos (by simp only [floorOK, Bool.and_eq_true, decide_eq_true_eq]; exact ⟨⟨p_money.2 (by omega), by omega⟩, p_rightR.2 hm⟩)]
    unfold floorP
    have h1 := mul_le (n := income) (r := most) (N := 100000000000) (R := 1000000) (by omega) hi hm.1 hm.2
    rw [Int.tdiv_eq_ediv_of_nonneg h1.1]
    refine ⟨by omega, by omega, fun _ => by omega⟩

theorem part_facts {n r : Int} (hn : 0 ≤ n) (hn' : n ≤ 100000000000) (hr : 0 ≤ r ∧ r ≤ 1000000) : 0 ≤ part n r ∧ part n r ≤ n ∧ -1000000 ≤ 2 * (n * r - part n r * 1000000) ∧ 2 * (n * r - part n r * 1000000) ≤ 1000000 := by
  unfold part
  rw [if_neg (by omega)]
  have h1 := mul_le (n := n) (r := r) (N := 100000000000) (R := 1000000) hn hn' hr.1 hr.2
  have e : 2 * n * r = 2 * (n * r) := by rw [Int.mul_assoc]
  rw [e, Int.tdiv_eq_ediv_of_nonneg (by omega)]
  omega

/-! the tax -/
theorem addE_vals (l : List Vintage) (o e n : Int) : addE l o e n = 0 ∨ addE l o e n = 1 ∨ addE l o e n = 5 ∨ addE l o e n = 6 := by
  unfold addE
  repeat' split
  all_goals simp

theorem addE_ok {l : List Vintage} {o e n : Int} (h : addE l o e n = 0) : rightV o e = true ∧ 1 ≤ n ∧ money n = true ∧ money (left l + n) = true ∧ (l.any (sameKey o e) = true ∨ l.length < 12) := by
  unfold addE at h
  split at h
  · simp at h
  · rename_i h1
    simp only [Bool.or_eq_true, Bool.not_eq_true', decide_eq_true_eq, not_or, Bool.not_eq_false, Int.not_lt] at h1
    split at h
    · simp at h
    · rename_i h2
      simp only [Bool.not_eq_true', Bool.not_eq_false] at h2
      refine ⟨h1.1.1, h1.1.2, h1.2, h2, ?_⟩
      split at h
      · rename_i h3; exact .inl h3
      · split at h
        · simp at h
        · rename_i h4; exact .inr (by omega)

theorem any_length {o e n : Int} : ∀ {l : List Vintage}, sortedL l = true → l.any (sameKey o e) = true → (insR o e n l).length = l.length
  | l, h, ha => by rw [← addTo_insR h ha]; simp [addTo]

theorem addP_wf {l : List Vintage} (h : wfL l = true) (o e n : Int) : wfL (addP l o e n) = true ∧ (addE l o e n = 0 → left (addP l o e n) = left l + n) := by
  obtain ⟨h1, h2, h3, h4⟩ := p_wfL.1 h
  rw [addP_eq h4]
  by_cases hE : addE l o e n = 0
  · rw [if_pos hE]
    obtain ⟨a1, a2, a3, a4, a5⟩ := addE_ok hE
    have a4 := p_money.1 a4
    refine ⟨wf_insR h (by omega) (by omega) ?_, fun _ => left_insR o e n l⟩
    rcases a5 with a5 | a5
    · rw [any_length h4 a5]; exact h1
    · have := length_insR o e n l; omega
  · rw [if_neg hE]
    exact ⟨h, fun x => absurd x hE⟩

theorem addR_wf {l : List Vintage} (h : wfL l = true) (o e n : Int) : wfL (addR l o e n) = true := by
  obtain ⟨h1, h2, h3, h4⟩ := p_wfL.1 h
  unfold addR
  split
  · rename_i hE
    rw [ins_eq h4]
    unfold addRE at hE
    split at hE
    · simp at hE
    · rename_i c1
      split at hE
      · simp at hE
      · rename_i c2
        split at hE
        · simp at hE
        · rename_i c3
          simp only [Bool.or_eq_true, Bool.not_eq_true', decide_eq_true_eq, not_or] at c1
          rw [ins_eq h4] at c3
          exact wf_insR h (by omega) (by omega) (by omega)
  · exact h

end Go.Proofs.Ytbnmmfjdbdbldaa

/-
  Functions, gone through in pieces.
-/
namespace Go.Proofs.Ytbnmmfjdbdbldaa
open Go.Abs

-- (*scutage/vintage.Losses).Add
noncomputable def cfg11 (fu : Nat → Nat → Nat) : Cfg where
  P := Try.prog
  Γ := lookC [(27, c27), (28, c28), (9, c9), (29, c29)]
  ann := fun g => bif Nat.beq g 11 then ⟨fu 11, fun k => []⟩ else bif Nat.beq g 25 then ⟨fu 25, fun k => bif Nat.beq k 2 then [0, 1, 4, 7, 8] else []⟩ else bif Nat.beq g 26 then ⟨fu 26, fun k => []⟩ else ⟨fu g, fun _ => []⟩
  inl := [25, 26]
def S11_0 (t7 : Int) (t8 : Int) (h0 : List Vintage) (h1_0 : Int) (h2_0 : Int) (f0_3 : Int) : St :=
  ⟨fr 19 [(0, .sl 0), (1, .fn 26 [.ptr 1 0, .ptr 2 0]), (4, .v (.int .i64 (0 : Int))), (7, .v (.int .i64 t7)), (8, .v (.int .i64 t8))], [fr 82 [(0, .ptr 3 0), (1, .v (.int .i64 h1_0)), (2, .v (.int .i64 h2_0)), (3, .v (.int .i64 f0_3)), (5, .ptr 1 0), (6, .ptr 2 0), (8, .v (.int .i64 (0 : Int))), (10, .ptr 3 0), (11, .ptr 3 0), (12, .ptr 3 0), (13, .sl 0), (14, .fn 26 [.ptr 1 0, .ptr 2 0])], fr 4 [(0, .ptr 3 0), (1, .v (.int .i64 h1_0)), (2, .v (.int .i64 h2_0)), (3, .v (.int .i64 f0_3))]], hpL [.arr (D := dom) .vintage h0, .cells [.v (.int .i64 h1_0)], .cells [.v (.int .i64 h2_0)], .cells [.sl 0]], 4⟩
def S11_0a (t4 : Int) (t7 : Int) (h0 : List Vintage) (h1_0 : Int) (h2_0 : Int) (f0_3 : Int) : St :=
  ⟨fr 19 [(0, .sl 0), (1, .fn 26 [.ptr 1 0, .ptr 2 0]), (4, .v (.int .i64 t4)), (7, .v (.int .i64 t7)), (8, .v (.int .i64 t4))], [fr 82 [(0, .ptr 3 0), (1, .v (.int .i64 h1_0)), (2, .v (.int .i64 h2_0)), (3, .v (.int .i64 f0_3)), (5, .ptr 1 0), (6, .ptr 2 0), (8, .v (.int .i64 (0 : Int))), (10, .ptr 3 0), (11, .ptr 3 0), (12, .ptr 3 0), (13, .sl 0), (14, .fn 26 [.ptr 1 0, .ptr 2 0])], fr 4 [(0, .ptr 3 0), (1, .v (.int .i64 h1_0)), (2, .v (.int .i64 h2_0)), (3, .v (.int .i64 f0_3))]], hpL [.arr (D := dom) .vintage h0, .cells [.v (.int .i64 h1_0)], .cells [.v (.int .i64 h2_0)], .cells [.sl 0]], 4⟩
def S11_0b (t7 : Int) (t8 : Int) (h0 : List Vintage) (h1_0 : Int) (h2_0 : Int) (f0_3 : Int) : St :=
  ⟨fr 19 [(0, .sl 0), (1, .fn 26 [.ptr 1 0, .ptr 2 0]), (4, .v (.int .i64 (0 : Int))), (7, .v (.int .i64 t7)), (8, .v (.int .i64 t8))], [fr 82 [(0, .ptr 3 0), (1, .v (.int .i64 h1_0)), (2, .v (.int .i64 h2_0)), (3, .v (.int .i64 f0_3)), (5, .ptr 1 0), (6, .ptr 2 0), (8, .v (.int .i64 (0 : Int))), (10, .ptr 3 0), (11, .ptr 3 0), (12, .ptr 3 0), (13, .sl 0), (14, .fn 26 [.ptr 1 0, .ptr 2 0])], fr 4 [(0, .ptr 3 0), (1, .v (.int .i64 h1_0)), (2, .v (.int .i64 h2_0)), (3, .v (.int .i64 f0_3))]], hpL [.arr (D := dom) .vintage h0, .cells [.v (.int .i64 h1_0)], .cells [.v (.int .i64 h2_0)], .cells [.sl 0]], 4⟩
theorem e11 (fu : Nat → Nat → Nat) (l : LossesO) (o : Int) (e : Int) (n : Int) : (cfg11 fu).runF 3 11 m11 r11 [.ptr .losses l, .av (.v (.int .i64 o)), .av (.v (.int .i64 e)), .av (.v (.int .i64 n))] =
    (cfg11 fu).loop 2 25 (loopOf (codeAt (bodyOf Try.f25) [true, false, true, false])) (S11_0 ((l.l.length : Nat) : Int) (0 : Int) l.l o e n) ((cfg11 fu).cont 2 25 (bodyOf Try.f25) [true, false, true, false] ((cfg11 fu).retK Try.f25 ((cfg11 fu).opK 3 (opsOf (codeAt (bodyOf Try.f11) [true, false])) 5 ((cfg11 fu).cont 3 11 (bodyOf Try.f11) [true, false] ((cfg11 fu).finK Try.f11 m11 r11))))) := by
  kernel_rfl
theorem r11_0 {α : Type} (fu : Nat → Nat → Nat) (t7 : Int) (t8 : Int) (h0 : List Vintage) (h1_0 : Int) (h2_0 : Int) (f0_3 : Int) (K1 : St → Option α) (K2 : Ex → St → Option α): (cfg11 fu).run 2 25 (loopOf (codeAt (bodyOf Try.f25) [true, false, true, false])) (S11_0 t7 t8 h0 h1_0 h2_0 f0_3) ((cfg11 fu).roundK 25 (loopOf (codeAt (bodyOf Try.f25) [true, false, true, false])) K1 K2) =
    bif (decide (t8 < t7)) then
    bif (decide (0 ≤ t8)) then
    (match elt h0 t8.toNat with
    | none => none
    | some x1 => (match elt h0 t8.toNat with
      | none => none
      | some x2 => bif (x2.Origin == h1_0) then
        bif (x2.Expiry == h2_0) then
        K2 .ret (S11_0a t8 t7 h0 h1_0 h2_0 f0_3)
        else
        K1 (S11_0 t7 (IntKind.i64.wrap (t8 + (1 : Int))) h0 h1_0 h2_0 f0_3)
        else
        K1 (S11_0 t7 (IntKind.i64.wrap (t8 + (1 : Int))) h0 h1_0 h2_0 f0_3)))
    else
    none
    else
    K2 (.exit 0) (S11_0b t7 t8 h0 h1_0 h2_0 f0_3) := by
  kernel_rfl
theorem c11_0a (fu : Nat → Nat → Nat) (t4 : Int) (t7 : Int) (h0 : List Vintage) (h1_0 : Int) (h2_0 : Int) (f0_3 : Int) : ((cfg11 fu).cont 2 25 (bodyOf Try.f25) [true, false, true, false] ((cfg11 fu).retK Try.f25 ((cfg11 fu).opK 3 (opsOf (codeAt (bodyOf Try.f11) [true, false])) 5 ((cfg11 fu).cont 3 11 (bodyOf Try.f11) [true, false] ((cfg11 fu).finK Try.f11 m11 r11))))) .ret (S11_0a t4 t7 h0 h1_0 h2_0 f0_3) =
    bif (!(rightV h1_0 h2_0)) then
    some ([.av (.v (.int .i64 (1 : Int)))], [.ptr .losses (LossesO.mk h0), .av (.v undef), .av (.v undef), .av (.v undef)])
    else
    bif (decide (f0_3 < (1 : Int))) then
    some ([.av (.v (.int .i64 (1 : Int)))], [.ptr .losses (LossesO.mk h0), .av (.v undef), .av (.v undef), .av (.v undef)])
    else
    bif (!(money f0_3)) then
    some ([.av (.v (.int .i64 (1 : Int)))], [.ptr .losses (LossesO.mk h0), .av (.v undef), .av (.v undef), .av (.v undef)])
    else
    bif (wfL h0) then
    bif (!(money (IntKind.i64.wrap ((left h0) + f0_3)))) then
    some ([.av (.v (.int .i64 (6 : Int)))], [.ptr .losses (LossesO.mk h0), .av (.v undef), .av (.v undef), .av (.v undef)])
    else
    bif (decide (t4 ≥ (0 : Int))) then
    bif (decide (0 ≤ t4)) then
    (match elt h0 t4.toNat with
    | none => none
    | some x3 => (match elt h0 t4.toNat with
      | none => none
      | some x4 => bif (decide (0 ≤ t4)) then
        (match elt h0 t4.toNat with
        | none => none
        | some x5 => (match elt h0 t4.toNat with
          | none => none
          | some x6 => some ([.av (.v (.int .i64 (0 : Int)))], [.ptr .losses (LossesO.mk (setE h0 t4.toNat (Vintage.mk x6.Origin x6.Expiry (IntKind.i64.wrap (x4.Left + f0_3))))), .av (.v undef), .av (.v undef), .av (.v undef)])))
        else
        none))
    else
    none
    else
    bif (decide (((h0.length : Nat) : Int) ≥ (12 : Int))) then
    some ([.av (.v (.int .i64 (5 : Int)))], [.ptr .losses (LossesO.mk h0), .av (.v undef), .av (.v undef), .av (.v undef)])
    else
    bif (decide ((h0.length + 1) * 24 ≤ 140737488355328)) then
    bif (decide ((h0 ++ ([(Vintage.mk h1_0 h2_0 f0_3)] : List Vintage)).length ≤ 1000) && distinct (h0 ++ ([(Vintage.mk h1_0 h2_0 f0_3)] : List Vintage))) then
    some ([.av (.v (.int .i64 (0 : Int)))], [.ptr .losses (LossesO.mk (sortV (h0 ++ ([(Vintage.mk h1_0 h2_0 f0_3)] : List Vintage)))), .av (.v undef), .av (.v undef), .av (.v undef)])
    else
    none
    else
    none
    else
    none := by
  kernel_rfl
theorem c11_0b (fu : Nat → Nat → Nat) (t7 : Int) (t8 : Int) (h0 : List Vintage) (h1_0 : Int) (h2_0 : Int) (f0_3 : Int) : ((cfg11 fu).cont 2 25 (bodyOf Try.f25) [true, false, true, false] ((cfg11 fu).retK Try.f25 ((cfg11 fu).opK 3 (opsOf (codeAt (bodyOf Try.f11) [true, false])) 5 ((cfg11 fu).cont 3 11 (bodyOf Try.f11) [true, false] ((cfg11 fu).finK Try.f11 m11 r11))))) (.exit 0) (S11_0b t7 t8 h0 h1_0 h2_0 f0_3) =
    bif (!(rightV h1_0 h2_0)) then
    some ([.av (.v (.int .i64 (1 : Int)))], [.ptr .losses (LossesO.mk h0), .av (.v undef), .av (.v undef), .av (.v undef)])
    else
    bif (decide (f0_3 < (1 : Int))) then
    some ([.av (.v (.int .i64 (1 : Int)))], [.ptr .losses (LossesO.mk h0), .av (.v undef), .av (.v undef), .av (.v undef)])
    else
    bif (!(money f0_3)) then
    some ([.av (.v (.int .i64 (1 : Int)))], [.ptr .losses (LossesO.mk h0), .av (.v undef), .av (.v undef), .av (.v undef)])
    else
    bif (wfL h0) then
    bif (!(money (IntKind.i64.wrap ((left h0) + f0_3)))) then
    some ([.av (.v (.int .i64 (6 : Int)))], [.ptr .losses (LossesO.mk h0), .av (.v undef), .av (.v undef), .av (.v undef)])
    else
    bif (decide (((h0.length : Nat) : Int) ≥ (12 : Int))) then
    some ([.av (.v (.int .i64 (5 : Int)))], [.ptr .losses (LossesO.mk h0), .av (.v undef), .av (.v undef), .av (.v undef)])
    else
    bif (decide ((h0.length + 1) * 24 ≤ 140737488355328)) then
    bif (decide ((h0 ++ ([(Vintage.mk h1_0 h2_0 f0_3)] : List Vintage)).length ≤ 1000) && distinct (h0 ++ ([(Vintage.mk h1_0 h2_0 f0_3)] : List Vintage))) then
    some ([.av (.v (.int .i64 (0 : Int)))], [.ptr .losses (LossesO.mk (sortV (h0 ++ ([(Vintage.mk h1_0 h2_0 f0_3)] : List Vintage)))), .av (.v undef), .av (.v undef), .av (.v undef)])
    else
    none
    else
    none
    else
    none := by
  kernel_rfl
theorem lp11_0 {α : Type} (st : St) (K : Ex → St → Option α) : (cfg11 fu0).loop 2 25 (loopOf (codeAt (bodyOf Try.f25) [true, false, true, false])) st K = (cfg11 fu0).loopN 2 25 (loopOf (codeAt (bodyOf Try.f25) [true, false, true, false])) 1099511627776 st K := by kernel_rfl
def Said11 : Prop := ∀ (l : LossesO) (o : Int) (e : Int) (n : Int) , (wfL l.l) = true → (cfg11 fu0).runF 3 11 m11 r11 [.ptr .losses l, .av (.v (.int .i64 o)), .av (.v (.int .i64 e)), .av (.v (.int .i64 n))] = some (([.av (.v (.int .i64 (addE l.l o e n)))], [.ptr .losses (LossesO.mk (addP l.l o e n)), .av (.v undef), .av (.v undef), .av (.v undef)]) : List MC × List MC)
theorem good11 (hΓ : AllGood Try.prog (cfg11 fu0).Γ) (h : Said11) : Good Try.prog 11 c11 := by
  refine (cfg11 fu0).good (d := 3) (r := r11) lawful lawfulO mixed hΓ (by kernel_rfl) fun ms hp => ?_
  have hp : (match (generalizing := false) ms with
    | [.ptr .losses l, .av (.v (.int .i64 o)), .av (.v (.int .i64 e)), .av (.v (.int .i64 n))] => wfL l.l
    | _ => false) = true := hp
  split at hp
  · exact h _ _ _ _ hp
  · simp at hp

-- (*scutage/scutageref09.Losses).Add
noncomputable def cfg12 (fu : Nat → Nat → Nat) : Cfg where
  P := Try.prog
  Γ := lookC [(33, c33), (34, c34)]
  ann := fun g => bif Nat.beq g 12 then ⟨fu 12, fun k => bif Nat.beq k 8 then [0, 1, 2, 3, 8, 9, 10, 41, 42, 43] else []⟩ else ⟨fu g, fun _ => []⟩
  inl := []
def S12_0 (origin1 : Int) (expiry2 : Int) (n3 : Int) (done10 : Bool) (t42 : Int) (t43 : Int) (h1 : List Vintage) (h2 : List Vintage) : St :=
  ⟨fr 110 [(0, .ptr 0 0), (1, .v (.int .i64 origin1)), (2, .v (.int .i64 expiry2)), (3, .v (.int .i64 n3)), (8, .v (.int .i64 (0 : Int))), (9, .sl 2), (10, .v (.bool done10)), (41, .sl 1), (42, .v (.int .i64 t42)), (43, .v (.int .i64 t43))], [fr 4 [(0, .ptr 0 0), (1, .v (.int .i64 origin1)), (2, .v (.int .i64 expiry2)), (3, .v (.int .i64 n3))]], hpL [.cells [.sl 1], .arr (D := dom) .vintage h1, .arr (D := dom) .vintage h2], 3⟩
def S12_0a (origin1 : Int) (expiry2 : Int) (n3 : Int) (done10 : Bool) (t42 : Int) (t43 : Int) (h1 : List Vintage) (h2 : List Vintage) : St :=
  ⟨fr 110 [(0, .ptr 0 0), (1, .v (.int .i64 origin1)), (2, .v (.int .i64 expiry2)), (3, .v (.int .i64 n3)), (8, .v (.int .i64 (0 : Int))), (9, .sl 2), (10, .v (.bool done10)), (41, .sl 1), (42, .v (.int .i64 t42)), (43, .v (.int .i64 t43))], [fr 4 [(0, .ptr 0 0), (1, .v (.int .i64 origin1)), (2, .v (.int .i64 expiry2)), (3, .v (.int .i64 n3))]], hpL [.cells [.sl 1], .arr (D := dom) .vintage h1, .arr (D := dom) .vintage h2], 3⟩
theorem e12 (fu : Nat → Nat → Nat) (l : RLossesO) (o : Int) (e : Int) (n : Int) : (cfg12 fu).runF 3 12 m12 r12 [.ptr .rlosses l, .av (.v (.int .i64 o)), .av (.v (.int .i64 e)), .av (.v (.int .i64 n))] =
    bif (!(yearR o)) then
    some ([.av (.v (.int .i64 (1 : Int)))], [.ptr .rlosses (RLossesO.mk l.V), .av (.v undef), .av (.v undef), .av (.v undef)])
    else
    bif (decide (e < o)) then
    some ([.av (.v (.int .i64 (1 : Int)))], [.ptr .rlosses (RLossesO.mk l.V), .av (.v undef), .av (.v undef), .av (.v undef)])
    else
    bif (decide (e > (198 : Int))) then
    some ([.av (.v (.int .i64 (1 : Int)))], [.ptr .rlosses (RLossesO.mk l.V), .av (.v undef), .av (.v undef), .av (.v undef)])
    else
    bif (decide (n < (1 : Int))) then
    some ([.av (.v (.int .i64 (1 : Int)))], [.ptr .rlosses (RLossesO.mk l.V), .av (.v undef), .av (.v undef), .av (.v undef)])
    else
    bif (decide (n > (100000000000 : Int))) then
    some ([.av (.v (.int .i64 (1 : Int)))], [.ptr .rlosses (RLossesO.mk l.V), .av (.v undef), .av (.v undef), .av (.v undef)])
    else
    bif (wfL l.V) then
    bif (decide ((IntKind.i64.wrap ((left l.V) + n)) > (100000000000 : Int))) then
    some ([.av (.v (.int .i64 (6 : Int)))], [.ptr .rlosses (RLossesO.mk l.V), .av (.v undef), .av (.v undef), .av (.v undef)])
    else
    (cfg12 fu).loop 3 12 (loopOf (codeAt (bodyOf Try.f12) [true, true, true, true, true, false, true, false])) (S12_0 o e n false ((l.V.length : Nat) : Int) (0 : Int) l.V ([] : List Vintage)) ((cfg12 fu).cont 3 12 (bodyOf Try.f12) [true, true, true, true, true, false, true, false] ((cfg12 fu).finK Try.f12 m12 r12))
    else
    none := by
  kernel_rfl
theorem r12_0 {α : Type} (fu : Nat → Nat → Nat) (origin1 : Int) (expiry2 : Int) (n3 : Int) (done10 : Bool) (t42 : Int) (t43 : Int) (h1 : List Vintage) (h2 : List Vintage) (K1 : St → Option α) (K2 : Ex → St → Option α): (cfg12 fu).run 3 12 (loopOf (codeAt (bodyOf Try.f12) [true, true, true, true, true, false, true, false])) (S12_0 origin1 expiry2 n3 done10 t42 t43 h1 h2) ((cfg12 fu).roundK 12 (loopOf (codeAt (bodyOf Try.f12) [true, true, true, true, true, false, true, false])) K1 K2) =
    bif (decide (t43 < t42)) then
    bif (decide (0 ≤ t43)) then
    (match elt h1 t43.toNat with
    | none => none
    | some x1 => (match elt h1 t43.toNat with
      | none => none
      | some x2 => bif (x2.Origin == origin1) then
        bif (x2.Expiry == expiry2) then
        bif (decide ((h2.length + 1) * 24 ≤ 140737488355328)) then
        K1 (S12_0 origin1 expiry2 n3 true t42 (IntKind.i64.wrap (t43 + (1 : Int))) h1 (h2 ++ ([(Vintage.mk x2.Origin x2.Expiry (IntKind.i64.wrap (x2.Left + n3)))] : List Vintage)))
        else
        none
        else
        bif (!done10) then
        bif (decide (x2.Expiry > expiry2)) then
        bif (decide ((h2.length + 1) * 24 ≤ 140737488355328)) then
        bif (decide (((h2 ++ ([(Vintage.mk origin1 expiry2 n3)] : List Vintage)).length + 1) * 24 ≤ 140737488355328)) then
        K1 (S12_0 origin1 expiry2 n3 true t42 (IntKind.i64.wrap (t43 + (1 : Int))) h1 ((h2 ++ ([(Vintage.mk origin1 expiry2 n3)] : List Vintage)) ++ ([(Vintage.mk x2.Origin x2.Expiry x2.Left)] : List Vintage)))
        else
        none
        else
        none
        else
        bif (x2.Expiry == expiry2) then
        bif (decide (x2.Origin > origin1)) then
        bif (decide ((h2.length + 1) * 24 ≤ 140737488355328)) then
        bif (decide (((h2 ++ ([(Vintage.mk origin1 expiry2 n3)] : List Vintage)).length + 1) * 24 ≤ 140737488355328)) then
        K1 (S12_0 origin1 expiry2 n3 true t42 (IntKind.i64.wrap (t43 + (1 : Int))) h1 ((h2 ++ ([(Vintage.mk origin1 expiry2 n3)] : List Vintage)) ++ ([(Vintage.mk x2.Origin x2.Expiry x2.Left)] : List Vintage)))
        else
        none
        else
        none
        else
        bif (decide ((h2.length + 1) * 24 ≤ 140737488355328)) then
        K1 (S12_0 origin1 expiry2 n3 done10 t42 (IntKind.i64.wrap (t43 + (1 : Int))) h1 (h2 ++ ([(Vintage.mk x2.Origin x2.Expiry x2.Left)] : List Vintage)))
        else
        none
        else
        bif (decide ((h2.length + 1) * 24 ≤ 140737488355328)) then
        K1 (S12_0 origin1 expiry2 n3 done10 t42 (IntKind.i64.wrap (t43 + (1 : Int))) h1 (h2 ++ ([(Vintage.mk x2.Origin x2.Expiry x2.Left)] : List Vintage)))
        else
        none
        else
        bif (decide ((h2.length + 1) * 24 ≤ 140737488355328)) then
        K1 (S12_0 origin1 expiry2 n3 done10 t42 (IntKind.i64.wrap (t43 + (1 : Int))) h1 (h2 ++ ([(Vintage.mk x2.Origin x2.Expiry x2.Left)] : List Vintage)))
        else
        none
        else
        bif (!done10) then
        bif (decide (x2.Expiry > expiry2)) then
        bif (decide ((h2.length + 1) * 24 ≤ 140737488355328)) then
        bif (decide (((h2 ++ ([(Vintage.mk origin1 expiry2 n3)] : List Vintage)).length + 1) * 24 ≤ 140737488355328)) then
        K1 (S12_0 origin1 expiry2 n3 true t42 (IntKind.i64.wrap (t43 + (1 : Int))) h1 ((h2 ++ ([(Vintage.mk origin1 expiry2 n3)] : List Vintage)) ++ ([(Vintage.mk x2.Origin x2.Expiry x2.Left)] : List Vintage)))
        else
        none
        else
        none
        else
        bif (x2.Expiry == expiry2) then
        bif (decide (x2.Origin > origin1)) then
        bif (decide ((h2.length + 1) * 24 ≤ 140737488355328)) then
        bif (decide (((h2 ++ ([(Vintage.mk origin1 expiry2 n3)] : List Vintage)).length + 1) * 24 ≤ 140737488355328)) then
        K1 (S12_0 origin1 expiry2 n3 true t42 (IntKind.i64.wrap (t43 + (1 : Int))) h1 ((h2 ++ ([(Vintage.mk origin1 expiry2 n3)] : List Vintage)) ++ ([(Vintage.mk x2.Origin x2.Expiry x2.Left)] : List Vintage)))
        else
        none
        else
        none
        else
        bif (decide ((h2.length + 1) * 24 ≤ 140737488355328)) then
        K1 (S12_0 origin1 expiry2 n3 done10 t42 (IntKind.i64.wrap (t43 + (1 : Int))) h1 (h2 ++ ([(Vintage.mk x2.Origin x2.Expiry x2.Left)] : List Vintage)))
        else
        none
        else
        bif (decide ((h2.length + 1) * 24 ≤ 140737488355328)) then
        K1 (S12_0 origin1 expiry2 n3 done10 t42 (IntKind.i64.wrap (t43 + (1 : Int))) h1 (h2 ++ ([(Vintage.mk x2.Origin x2.Expiry x2.Left)] : List Vintage)))
        else
        none
        else
        bif (decide ((h2.length + 1) * 24 ≤ 140737488355328)) then
        K1 (S12_0 origin1 expiry2 n3 done10 t42 (IntKind.i64.wrap (t43 + (1 : Int))) h1 (h2 ++ ([(Vintage.mk x2.Origin x2.Expiry x2.Left)] : List Vintage)))
        else
        none))
    else
    none
    else
    K2 (.exit 0) (S12_0a origin1 expiry2 n3 done10 t42 t43 h1 h2) := by
  kernel_rfl
theorem c12_0a (fu : Nat → Nat → Nat) (origin1 : Int) (expiry2 : Int) (n3 : Int) (done10 : Bool) (t42 : Int) (t43 : Int) (h1 : List Vintage) (h2 : List Vintage) : ((cfg12 fu).cont 3 12 (bodyOf Try.f12) [true, true, true, true, true, false, true, false] ((cfg12 fu).finK Try.f12 m12 r12)) (.exit 0) (S12_0a origin1 expiry2 n3 done10 t42 t43 h1 h2) =
    bif (!done10) then
    bif (decide ((h2.length + 1) * 24 ≤ 140737488355328)) then
    bif (decide ((((h2 ++ ([(Vintage.mk origin1 expiry2 n3)] : List Vintage)).length : Nat) : Int) > (12 : Int))) then
    some ([.av (.v (.int .i64 (5 : Int)))], [.ptr .rlosses (RLossesO.mk h1), .av (.v undef), .av (.v undef), .av (.v undef)])
    else
    some ([.av (.v (.int .i64 (0 : Int)))], [.ptr .rlosses (RLossesO.mk (h2 ++ ([(Vintage.mk origin1 expiry2 n3)] : List Vintage))), .av (.v undef), .av (.v undef), .av (.v undef)])
    else
    none
    else
    bif (decide (((h2.length : Nat) : Int) > (12 : Int))) then
    some ([.av (.v (.int .i64 (5 : Int)))], [.ptr .rlosses (RLossesO.mk h1), .av (.v undef), .av (.v undef), .av (.v undef)])
    else
    some ([.av (.v (.int .i64 (0 : Int)))], [.ptr .rlosses (RLossesO.mk h2), .av (.v undef), .av (.v undef), .av (.v undef)]) := by
  kernel_rfl
theorem lp12_0 {α : Type} (st : St) (K : Ex → St → Option α) : (cfg12 fu0).loop 3 12 (loopOf (codeAt (bodyOf Try.f12) [true, true, true, true, true, false, true, false])) st K = (cfg12 fu0).loopN 3 12 (loopOf (codeAt (bodyOf Try.f12) [true, true, true, true, true, false, true, false])) 1099511627776 st K := by kernel_rfl
def Said12 : Prop := ∀ (l : RLossesO) (o : Int) (e : Int) (n : Int) , (wfL l.V) = true → (cfg12 fu0).runF 3 12 m12 r12 [.ptr .rlosses l, .av (.v (.int .i64 o)), .av (.v (.int .i64 e)), .av (.v (.int .i64 n))] = some (([.av (.v (.int .i64 (addRE l.V o e n)))], [.ptr .rlosses (RLossesO.mk (addR l.V o e n)), .av (.v undef), .av (.v undef), .av (.v undef)]) : List MC × List MC)
theorem good12 (hΓ : AllGood Try.prog (cfg12 fu0).Γ) (h : Said12) : Good Try.prog 12 c12 := by
  refine (cfg12 fu0).good (d := 3) (r := r12) lawful lawfulO mixed hΓ (by kernel_rfl) fun ms hp => ?_
  have hp : (match (generalizing := false) ms with
    | [.ptr .rlosses l, .av (.v (.int .i64 o)), .av (.v (.int .i64 e)), .av (.v (.int .i64 n))] => wfL l.V
    | _ => false) = true := hp
  split at hp
  · exact h _ _ _ _ hp
  · simp at hp

-- scutage/scutageplay.Losses
noncomputable def cfg5 (fu : Nat → Nat → Nat) : Cfg where
  P := Try.prog
  Γ := lookC [(6, c6), (13, c13), (12, c12)]
  ann := fun g => bif Nat.beq g 5 then ⟨fu 5, fun k => bif Nat.beq k 3 then [0, 2, 3, 4] else []⟩ else ⟨fu g, fun _ => []⟩
  inl := []
def S5_0 (l0 : List Int) (i4 : Int) (h1 : List Vintage) : St :=
  ⟨fr 42 [(0, .imm .int l0), (2, .v (.pointer none)), (3, .ptr 0 0), (4, .v (.int .i64 i4))], [fr 1 [(0, .imm .int l0)]], hpL [.cells [.sl 1], .arr (D := dom) .vintage h1], 2⟩
def S5_0a (l0 : List Int) (i4 : Int) (h1 : List Vintage) : St :=
  ⟨fr 42 [(0, .imm .int l0), (2, .v (.pointer none)), (3, .ptr 0 0), (4, .v (.int .i64 i4))], [fr 1 [(0, .imm .int l0)]], hpL [.cells [.sl 1], .arr (D := dom) .vintage h1], 2⟩
theorem e5 (fu : Nat → Nat → Nat) (l : List Int) : (cfg5 fu).runF 3 5 m5 r5 [.av (.imm .int l)] =
    (cfg5 fu).loop 3 5 (loopOf (codeAt (bodyOf Try.f5) [true, true, false, true, false])) (S5_0 l (0 : Int) ([] : List Vintage)) ((cfg5 fu).cont 3 5 (bodyOf Try.f5) [true, true, false, true, false] ((cfg5 fu).finK Try.f5 m5 r5)) := by
  kernel_rfl
theorem r5_0 {α : Type} (fu : Nat → Nat → Nat) (l0 : List Int) (i4 : Int) (h1 : List Vintage) (K1 : St → Option α) (K2 : Ex → St → Option α): (cfg5 fu).run 3 5 (loopOf (codeAt (bodyOf Try.f5) [true, true, false, true, false])) (S5_0 l0 i4 h1) ((cfg5 fu).roundK 5 (loopOf (codeAt (bodyOf Try.f5) [true, true, false, true, false])) K1 K2) =
    bif (decide (i4 < ((l0.length : Nat) : Int))) then
    bif (decide (i4 < (8 : Int))) then
    bif (decide (0 ≤ i4)) then
    (match elt l0 i4.toNat with
    | none => none
    | some x1 => bif (decide (0 ≤ i4)) then
      (match elt l0 i4.toNat with
      | none => none
      | some x2 => bif (decide (0 ≤ i4)) then
        (match elt l0 i4.toNat with
        | none => none
        | some x3 => bif (decide (-9223372036854775808 ≤ (IntKind.i64.wrap (Int.tdiv x3 (25 : Int)))) && decide ((IntKind.i64.wrap (Int.tdiv x3 (25 : Int))) ≤ 9223372036854775807)) then
          bif (wfL h1) then
          K1 (S5_0 l0 (IntKind.i64.wrap (i4 + (1 : Int))) (addR h1 (within x1 (5 : Int)) (IntKind.i64.wrap ((within x1 (5 : Int)) + (within (IntKind.i64.wrap (Int.tdiv x2 (5 : Int))) (5 : Int)))) (max (amount (IntKind.i64.wrap (Int.tdiv x3 (25 : Int)))) (1 : Int))))
          else
          none
          else
          none)
        else
        none)
      else
      none)
    else
    none
    else
    K2 (.exit 0) (S5_0a l0 i4 h1)
    else
    K2 (.exit 0) (S5_0a l0 i4 h1) := by
  kernel_rfl
theorem c5_0a (fu : Nat → Nat → Nat) (l0 : List Int) (i4 : Int) (h1 : List Vintage) : ((cfg5 fu).cont 3 5 (bodyOf Try.f5) [true, true, false, true, false] ((cfg5 fu).finK Try.f5 m5 r5)) (.exit 0) (S5_0a l0 i4 h1) =
    some ([.ptr .rlosses (RLossesO.mk h1)], [.av (.v undef)]) := by
  kernel_rfl
theorem lp5_0 {α : Type} (st : St) (K : Ex → St → Option α) : (cfg5 fu0).loop 3 5 (loopOf (codeAt (bodyOf Try.f5) [true, true, false, true, false])) st K = (cfg5 fu0).loopN 3 5 (loopOf (codeAt (bodyOf Try.f5) [true, true, false, true, false])) 1099511627776 st K := by kernel_rfl
def Said5 : Prop := ∀ (l : List Int) , (allI64 l) = true → (cfg5 fu0).runF 3 5 m5 r5 [.av (.imm .int l)] = some (([.ptr .rlosses (RLossesO.mk (lossesR l))], [.av (.v undef)]) : List MC × List MC)
theorem good5 (hΓ : AllGood Try.prog (cfg5 fu0).Γ) (h : Said5) : Good Try.prog 5 c5 := by
  refine (cfg5 fu0).good (d := 3) (r := r5) lawful lawfulO mixed hΓ (by kernel_rfl) fun ms hp => ?_
  have hp : (match (generalizing := false) ms with
    | [.av (.imm .int l)] => allI64 l
    | _ => false) = true := hp
  split at hp
  · exact h _ hp
  · simp at hp

-- scutage/scutagelaw13.Of
noncomputable def cfg4 (fu : Nat → Nat → Nat) : Cfg where
  P := Try.prog
  Γ := lookC [(10, c10), (11, c11)]
  ann := fun g => bif Nat.beq g 4 then ⟨fu 4, fun k => bif Nat.beq k 5 then [2, 3, 12, 13, 14] else []⟩ else ⟨fu g, fun _ => []⟩
  inl := []
def S4_0 (t13 : Int) (t14 : Int) (h1 : List Vintage) (h2 : List Vintage) : St :=
  ⟨fr 29 [(2, .v (.pointer none)), (3, .ptr 0 0), (12, .sl 2), (13, .v (.int .i64 t13)), (14, .v (.int .i64 t14))], [fr 1 [(0, .ptr 3 0)]], hpL [.cells [.sl 1], .arr (D := dom) .vintage h1, .arr (D := dom) .vintage h2, .cells [.sl 2]], 4⟩
def S4_0a (t13 : Int) (t14 : Int) (h1 : List Vintage) (h2 : List Vintage) : St :=
  ⟨fr 29 [(2, .v (.pointer none)), (3, .ptr 0 0), (12, .sl 2), (13, .v (.int .i64 t13)), (14, .v (.int .i64 t14))], [fr 1 [(0, .ptr 3 0)]], hpL [.cells [.sl 1], .arr (D := dom) .vintage h1, .arr (D := dom) .vintage h2, .cells [.sl 2]], 4⟩
def S4_0b (t13 : Int) (t14 : Int) (h1 : List Vintage) (h2 : List Vintage) : St :=
  ⟨fr 29 [(2, .v (.pointer none)), (3, .ptr 0 0), (12, .sl 2), (13, .v (.int .i64 t13)), (14, .v (.int .i64 t14))], [fr 1 [(0, .ptr 3 0)]], hpL [.cells [.sl 1], .arr (D := dom) .vintage h1, .arr (D := dom) .vintage h2, .cells [.sl 2]], 4⟩
theorem e4 (fu : Nat → Nat → Nat) (x : RLossesO) : (cfg4 fu).runF 3 4 m4 r4 [.ptr .rlosses x] =
    (cfg4 fu).loop 3 4 (loopOf (codeAt (bodyOf Try.f4) [true, true, true, false, true, false])) (S4_0 ((x.V.length : Nat) : Int) (0 : Int) ([] : List Vintage) x.V) ((cfg4 fu).cont 3 4 (bodyOf Try.f4) [true, true, true, false, true, false] ((cfg4 fu).finK Try.f4 m4 r4)) := by
  kernel_rfl
theorem r4_0 {α : Type} (fu : Nat → Nat → Nat) (t13 : Int) (t14 : Int) (h1 : List Vintage) (h2 : List Vintage) (K1 : St → Option α) (K2 : Ex → St → Option α): (cfg4 fu).run 3 4 (loopOf (codeAt (bodyOf Try.f4) [true, true, true, false, true, false])) (S4_0 t13 t14 h1 h2) ((cfg4 fu).roundK 4 (loopOf (codeAt (bodyOf Try.f4) [true, true, true, false, true, false])) K1 K2) =
    bif (decide (t14 < t13)) then
    bif (decide (0 ≤ t14)) then
    (match elt h2 t14.toNat with
    | none => none
    | some x1 => (match elt h2 t14.toNat with
      | none => none
      | some x2 => bif (wfL h1) then
        bif (!((addE h1 x2.Origin x2.Expiry x2.Left) == (0 : Int))) then
        K2 .ret (S4_0a t13 t14 (addP h1 x2.Origin x2.Expiry x2.Left) h2)
        else
        K1 (S4_0 t13 (IntKind.i64.wrap (t14 + (1 : Int))) (addP h1 x2.Origin x2.Expiry x2.Left) h2)
        else
        none))
    else
    none
    else
    K2 (.exit 0) (S4_0b t13 t14 h1 h2) := by
  kernel_rfl
theorem c4_0a (fu : Nat → Nat → Nat) (t13 : Int) (t14 : Int) (h1 : List Vintage) (h2 : List Vintage) : ((cfg4 fu).cont 3 4 (bodyOf Try.f4) [true, true, true, false, true, false] ((cfg4 fu).finK Try.f4 m4 r4)) .ret (S4_0a t13 t14 h1 h2) =
    some ([.av (.v (.pointer none))], [.ptr .rlosses (RLossesO.mk h2)]) := by
  kernel_rfl
theorem c4_0b (fu : Nat → Nat → Nat) (t13 : Int) (t14 : Int) (h1 : List Vintage) (h2 : List Vintage) : ((cfg4 fu).cont 3 4 (bodyOf Try.f4) [true, true, true, false, true, false] ((cfg4 fu).finK Try.f4 m4 r4)) (.exit 0) (S4_0b t13 t14 h1 h2) =
    some ([.ptr .losses (LossesO.mk h1)], [.ptr .rlosses (RLossesO.mk h2)]) := by
  kernel_rfl
theorem lp4_0 {α : Type} (st : St) (K : Ex → St → Option α) : (cfg4 fu0).loop 3 4 (loopOf (codeAt (bodyOf Try.f4) [true, true, true, false, true, false])) st K = (cfg4 fu0).loopN 3 4 (loopOf (codeAt (bodyOf Try.f4) [true, true, true, false, true, false])) 1099511627776 st K := by kernel_rfl
def Said4 : Prop := ∀ (x : RLossesO) , (wfL x.V) = true → (cfg4 fu0).runF 3 4 m4 r4 [.ptr .rlosses x] = some (bif (ofL x.V) then (([.ptr .losses (LossesO.mk (ofP x.V))], [.ptr .rlosses x]) : List MC × List MC) else (([.av (.v (.pointer none))], [.ptr .rlosses x]) : List MC × List MC))
theorem good4 (hΓ : AllGood Try.prog (cfg4 fu0).Γ) (h : Said4) : Good Try.prog 4 c4 := by
  refine (cfg4 fu0).good (d := 3) (r := r4) lawful lawfulO mixed hΓ (by kernel_rfl) fun ms hp => ?_
  have hp : (match (generalizing := false) ms with
    | [.ptr .rlosses x] => wfL x.V
    | _ => false) = true := hp
  split at hp
  · exact h _ hp
  · simp at hp

-- scutage/current.Tax
noncomputable def cfg7 (fu : Nat → Nat → Nat) : Cfg where
  P := Try.prog
  Γ := lookC [(14, c14), (15, c15), (16, c16), (17, c17), (18, c18), (20, c20), (21, c21), (19, c19), (22, c22), (23, c23), (24, c24), (11, c11)]
  ann := fun g => bif Nat.beq g 7 then ⟨fu 7, fun k => []⟩ else ⟨fu g, fun _ => []⟩
  inl := []
theorem e7 (fu : Nat → Nat → Nat) (l : LossesO) (book : Int) (perm : Int) (moved : Int) (most : Int) (life : Int) (year : Int) (r : Int) : (cfg7 fu).runF 3 7 m7 r7 [.ptr .losses l, .av (.v (.int .i64 book)), .av (.v (.int .i64 perm)), .av (.v (.int .i64 moved)), .av (.v (.int .i64 most)), .av (.v (.int .i64 life)), .av (.v (.int .i64 year)), .av (.v (.int .i64 r))] =
    bif (!(rightR most)) then
    some ([.av (.agg [.v (.int .i64 (0 : Int)), .v (.int .i64 (0 : Int)), .v (.int .i64 (0 : Int)), .v (.int .i64 (0 : Int)), .v (.int .i64 (0 : Int)), .v (.int .i64 (0 : Int)), .imm .int ([] : List Int)]), .av (.v (.pointer none)), .av (.v (.int .i64 (1 : Int)))], [.ptr .losses (LossesO.mk l.l), .av (.v undef), .av (.v undef), .av (.v undef), .av (.v undef), .av (.v undef), .av (.v undef), .av (.v undef)])
    else
    bif (!(rightR r)) then
    some ([.av (.agg [.v (.int .i64 (0 : Int)), .v (.int .i64 (0 : Int)), .v (.int .i64 (0 : Int)), .v (.int .i64 (0 : Int)), .v (.int .i64 (0 : Int)), .v (.int .i64 (0 : Int)), .imm .int ([] : List Int)]), .av (.v (.pointer none)), .av (.v (.int .i64 (1 : Int)))], [.ptr .losses (LossesO.mk l.l), .av (.v undef), .av (.v undef), .av (.v undef), .av (.v undef), .av (.v undef), .av (.v undef), .av (.v undef)])
    else
    bif (!(yearR life)) then
    some ([.av (.agg [.v (.int .i64 (0 : Int)), .v (.int .i64 (0 : Int)), .v (.int .i64 (0 : Int)), .v (.int .i64 (0 : Int)), .v (.int .i64 (0 : Int)), .v (.int .i64 (0 : Int)), .imm .int ([] : List Int)]), .av (.v (.pointer none)), .av (.v (.int .i64 (1 : Int)))], [.ptr .losses (LossesO.mk l.l), .av (.v undef), .av (.v undef), .av (.v undef), .av (.v undef), .av (.v undef), .av (.v undef), .av (.v undef)])
    else
    bif (!(yearR year)) then
    some ([.av (.agg [.v (.int .i64 (0 : Int)), .v (.int .i64 (0 : Int)), .v (.int .i64 (0 : Int)), .v (.int .i64 (0 : Int)), .v (.int .i64 (0 : Int)), .v (.int .i64 (0 : Int)), .imm .int ([] : List Int)]), .av (.v (.pointer none)), .av (.v (.int .i64 (1 : Int)))], [.ptr .losses (LossesO.mk l.l), .av (.v undef), .av (.v undef), .av (.v undef), .av (.v undef), .av (.v undef), .av (.v undef), .av (.v undef)])
    else
    bif (incomeOK book perm moved) then
    bif (wfL l.l) then
    bif (wfL l.l) then
    bif (decide ((incomeP book perm moved) > (0 : Int))) then
    bif (wfL (still l.l year)) then
    bif (wfL ((still l.l year)) && decide ((roomP (incomeP book perm moved) most) ≤ 1000000000000)) then
    bif (decide ((vector ((still l.l year)) year (roomP (incomeP book perm moved) most)).length ≤ 1000) && allSmall (vector ((still l.l year)) year (roomP (incomeP book perm moved) most))) then
    bif (wfL (still l.l year) && decide ((vector ((still l.l year)) year (roomP (incomeP book perm moved) most)).length ≤ 1000)) then
    bif (takeOK (still l.l year) (vector ((still l.l year)) year (roomP (incomeP book perm moved) most))) then
    bif (ofOK (IntKind.i64.wrap ((IntKind.i64.wrap ((incomeP book perm moved) - (sumI (vector ((still l.l year)) year (roomP (incomeP book perm moved) most))))) + (0 : Int))) r) then
    some ([.av (.agg [.v (.int .i64 (incomeP book perm moved)), .v (.int .i64 (gone l.l year)), .v (.int .i64 (sumI (vector ((still l.l year)) year (roomP (incomeP book perm moved) most)))), .v (.int .i64 (0 : Int)), .v (.int .i64 (IntKind.i64.wrap ((IntKind.i64.wrap ((incomeP book perm moved) - (sumI (vector ((still l.l year)) year (roomP (incomeP book perm moved) most))))) + (0 : Int)))), .v (.int .i64 (part (IntKind.i64.wrap ((IntKind.i64.wrap ((incomeP book perm moved) - (sumI (vector ((still l.l year)) year (roomP (incomeP book perm moved) most))))) + (0 : Int))) r)), .imm .int (vector ((still l.l year)) year (roomP (incomeP book perm moved) most))]), .ptr .losses (LossesO.mk (takeP (still l.l year) (vector ((still l.l year)) year (roomP (incomeP book perm moved) most)))), .av (.v (.int .i64 (0 : Int)))], [.ptr .losses (LossesO.mk l.l), .av (.v undef), .av (.v undef), .av (.v undef), .av (.v undef), .av (.v undef), .av (.v undef), .av (.v undef)])
    else
    some ([.av (.agg [.v (.int .i64 (incomeP book perm moved)), .v (.int .i64 (gone l.l year)), .v (.int .i64 (sumI (vector ((still l.l year)) year (roomP (incomeP book perm moved) most)))), .v (.int .i64 (0 : Int)), .v (.int .i64 (IntKind.i64.wrap ((IntKind.i64.wrap ((incomeP book perm moved) - (sumI (vector ((still l.l year)) year (roomP (incomeP book perm moved) most))))) + (0 : Int)))), .v (.int .i64 (0 : Int)), .imm .int (vector ((still l.l year)) year (roomP (incomeP book perm moved) most))]), .ptr .losses (LossesO.mk (takeP (still l.l year) (vector ((still l.l year)) year (roomP (incomeP book perm moved) most)))), .av (.v (.int .i64 (0 : Int)))], [.ptr .losses (LossesO.mk l.l), .av (.v undef), .av (.v undef), .av (.v undef), .av (.v undef), .av (.v undef), .av (.v undef), .av (.v undef)])
    else
    bif (ofOK (IntKind.i64.wrap ((IntKind.i64.wrap ((incomeP book perm moved) - (sumI (vector ((still l.l year)) year (roomP (incomeP book perm moved) most))))) + (0 : Int))) r) then
    some ([.av (.agg [.v (.int .i64 (incomeP book perm moved)), .v (.int .i64 (gone l.l year)), .v (.int .i64 (sumI (vector ((still l.l year)) year (roomP (incomeP book perm moved) most)))), .v (.int .i64 (0 : Int)), .v (.int .i64 (IntKind.i64.wrap ((IntKind.i64.wrap ((incomeP book perm moved) - (sumI (vector ((still l.l year)) year (roomP (incomeP book perm moved) most))))) + (0 : Int)))), .v (.int .i64 (part (IntKind.i64.wrap ((IntKind.i64.wrap ((incomeP book perm moved) - (sumI (vector ((still l.l year)) year (roomP (incomeP book perm moved) most))))) + (0 : Int))) r)), .imm .int (vector ((still l.l year)) year (roomP (incomeP book perm moved) most))]), .ptr .losses (LossesO.mk (still l.l year)), .av (.v (.int .i64 (0 : Int)))], [.ptr .losses (LossesO.mk l.l), .av (.v undef), .av (.v undef), .av (.v undef), .av (.v undef), .av (.v undef), .av (.v undef), .av (.v undef)])
    else
    some ([.av (.agg [.v (.int .i64 (incomeP book perm moved)), .v (.int .i64 (gone l.l year)), .v (.int .i64 (sumI (vector ((still l.l year)) year (roomP (incomeP book perm moved) most)))), .v (.int .i64 (0 : Int)), .v (.int .i64 (IntKind.i64.wrap ((IntKind.i64.wrap ((incomeP book perm moved) - (sumI (vector ((still l.l year)) year (roomP (incomeP book perm moved) most))))) + (0 : Int)))), .v (.int .i64 (0 : Int)), .imm .int (vector ((still l.l year)) year (roomP (incomeP book perm moved) most))]), .ptr .losses (LossesO.mk (still l.l year)), .av (.v (.int .i64 (0 : Int)))], [.ptr .losses (LossesO.mk l.l), .av (.v undef), .av (.v undef), .av (.v undef), .av (.v undef), .av (.v undef), .av (.v undef), .av (.v undef)])
    else
    none
    else
    none
    else
    none
    else
    none
    else
    bif (decide ((incomeP book perm moved) < (0 : Int))) then
    bif (wfL (still l.l year)) then
    bif (!((addE (still l.l year) year (IntKind.i64.wrap (year + life)) (IntKind.i64.wrap (0 - (incomeP book perm moved)))) == (0 : Int))) then
    some ([.av (.agg [.v (.int .i64 (0 : Int)), .v (.int .i64 (0 : Int)), .v (.int .i64 (0 : Int)), .v (.int .i64 (0 : Int)), .v (.int .i64 (0 : Int)), .v (.int .i64 (0 : Int)), .imm .int ([] : List Int)]), .av (.v (.pointer none)), .av (.v (.int .i64 (addE (still l.l year) year (IntKind.i64.wrap (year + life)) (IntKind.i64.wrap (0 - (incomeP book perm moved))))))], [.ptr .losses (LossesO.mk l.l), .av (.v undef), .av (.v undef), .av (.v undef), .av (.v undef), .av (.v undef), .av (.v undef), .av (.v undef)])
    else
    bif (ofOK (IntKind.i64.wrap ((IntKind.i64.wrap ((incomeP book perm moved) - (0 : Int))) + (IntKind.i64.wrap (0 - (incomeP book perm moved))))) r) then
    some ([.av (.agg [.v (.int .i64 (incomeP book perm moved)), .v (.int .i64 (gone l.l year)), .v (.int .i64 (0 : Int)), .v (.int .i64 (IntKind.i64.wrap (0 - (incomeP book perm moved)))), .v (.int .i64 (IntKind.i64.wrap ((IntKind.i64.wrap ((incomeP book perm moved) - (0 : Int))) + (IntKind.i64.wrap (0 - (incomeP book perm moved)))))), .v (.int .i64 (part (IntKind.i64.wrap ((IntKind.i64.wrap ((incomeP book perm moved) - (0 : Int))) + (IntKind.i64.wrap (0 - (incomeP book perm moved))))) r)), .imm .int ([] : List Int)]), .ptr .losses (LossesO.mk (addP (still l.l year) year (IntKind.i64.wrap (year + life)) (IntKind.i64.wrap (0 - (incomeP book perm moved))))), .av (.v (.int .i64 (0 : Int)))], [.ptr .losses (LossesO.mk l.l), .av (.v undef), .av (.v undef), .av (.v undef), .av (.v undef), .av (.v undef), .av (.v undef), .av (.v undef)])
    else
    some ([.av (.agg [.v (.int .i64 (incomeP book perm moved)), .v (.int .i64 (gone l.l year)), .v (.int .i64 (0 : Int)), .v (.int .i64 (IntKind.i64.wrap (0 - (incomeP book perm moved)))), .v (.int .i64 (IntKind.i64.wrap ((IntKind.i64.wrap ((incomeP book perm moved) - (0 : Int))) + (IntKind.i64.wrap (0 - (incomeP book perm moved)))))), .v (.int .i64 (0 : Int)), .imm .int ([] : List Int)]), .ptr .losses (LossesO.mk (addP (still l.l year) year (IntKind.i64.wrap (year + life)) (IntKind.i64.wrap (0 - (incomeP book perm moved))))), .av (.v (.int .i64 (0 : Int)))], [.ptr .losses (LossesO.mk l.l), .av (.v undef), .av (.v undef), .av (.v undef), .av (.v undef), .av (.v undef), .av (.v undef), .av (.v undef)])
    else
    none
    else
    bif (ofOK (IntKind.i64.wrap ((IntKind.i64.wrap ((incomeP book perm moved) - (0 : Int))) + (0 : Int))) r) then
    some ([.av (.agg [.v (.int .i64 (incomeP book perm moved)), .v (.int .i64 (gone l.l year)), .v (.int .i64 (0 : Int)), .v (.int .i64 (0 : Int)), .v (.int .i64 (IntKind.i64.wrap ((IntKind.i64.wrap ((incomeP book perm moved) - (0 : Int))) + (0 : Int)))), .v (.int .i64 (part (IntKind.i64.wrap ((IntKind.i64.wrap ((incomeP book perm moved) - (0 : Int))) + (0 : Int))) r)), .imm .int ([] : List Int)]), .ptr .losses (LossesO.mk (still l.l year)), .av (.v (.int .i64 (0 : Int)))], [.ptr .losses (LossesO.mk l.l), .av (.v undef), .av (.v undef), .av (.v undef), .av (.v undef), .av (.v undef), .av (.v undef), .av (.v undef)])
    else
    some ([.av (.agg [.v (.int .i64 (incomeP book perm moved)), .v (.int .i64 (gone l.l year)), .v (.int .i64 (0 : Int)), .v (.int .i64 (0 : Int)), .v (.int .i64 (IntKind.i64.wrap ((IntKind.i64.wrap ((incomeP book perm moved) - (0 : Int))) + (0 : Int)))), .v (.int .i64 (0 : Int)), .imm .int ([] : List Int)]), .ptr .losses (LossesO.mk (still l.l year)), .av (.v (.int .i64 (0 : Int)))], [.ptr .losses (LossesO.mk l.l), .av (.v undef), .av (.v undef), .av (.v undef), .av (.v undef), .av (.v undef), .av (.v undef), .av (.v undef)])
    else
    none
    else
    none
    else
    some ([.av (.agg [.v (.int .i64 (0 : Int)), .v (.int .i64 (0 : Int)), .v (.int .i64 (0 : Int)), .v (.int .i64 (0 : Int)), .v (.int .i64 (0 : Int)), .v (.int .i64 (0 : Int)), .imm .int ([] : List Int)]), .av (.v (.pointer none)), .av (.v (.int .i64 (6 : Int)))], [.ptr .losses (LossesO.mk l.l), .av (.v undef), .av (.v undef), .av (.v undef), .av (.v undef), .av (.v undef), .av (.v undef), .av (.v undef)]) := by
  kernel_rfl
def Said7 : Prop := ∀ (l : LossesO) (book : Int) (perm : Int) (moved : Int) (most : Int) (life : Int) (year : Int) (r : Int) , (wfL l.l) = true → (cfg7 fu0).runF 3 7 m7 r7 [.ptr .losses l, .av (.v (.int .i64 book)), .av (.v (.int .i64 perm)), .av (.v (.int .i64 moved)), .av (.v (.int .i64 most)), .av (.v (.int .i64 life)), .av (.v (.int .i64 year)), .av (.v (.int .i64 r))] = some (bif (decide (taxE l.l book perm moved most life year r = 0)) then (([.av (.agg [.v (.int .i64 (taxR l.l book perm moved most life year r).Income), .v (.int .i64 (taxR l.l book perm moved most life year r).Expired), .v (.int .i64 (taxR l.l book perm moved most life year r).Used), .v (.int .i64 (taxR l.l book perm moved most life year r).New), .v (.int .i64 (taxR l.l book perm moved most life year r).Taxable), .v (.int .i64 (taxR l.l book perm moved most life year r).Tax), .imm .int (taxR l.l book perm moved most life year r).Vector]), .ptr .losses (LossesO.mk (taxL l.l book perm moved most life year r)), .av (.v (.int .i64 (0 : Int)))], [.ptr .losses l, .av (.v undef), .av (.v undef), .av (.v undef), .av (.v undef), .av (.v undef), .av (.v undef), .av (.v undef)]) : List MC × List MC) else (([.av (.agg [.v (.int .i64 (0 : Int)), .v (.int .i64 (0 : Int)), .v (.int .i64 (0 : Int)), .v (.int .i64 (0 : Int)), .v (.int .i64 (0 : Int)), .v (.int .i64 (0 : Int)), .imm .int ([] : List Int)]), .av (.v (.pointer none)), .av (.v (.int .i64 (taxE l.l book perm moved most life year r)))], [.ptr .losses l, .av (.v undef), .av (.v undef), .av (.v undef), .av (.v undef), .av (.v undef), .av (.v undef), .av (.v undef)]) : List MC × List MC))
theorem good7 (hΓ : AllGood Try.prog (cfg7 fu0).Γ) (h : Said7) : Good Try.prog 7 c7 := by
  refine (cfg7 fu0).good (d := 3) (r := r7) lawful lawfulO mixed hΓ (by kernel_rfl) fun ms hp => ?_
  have hp : (match (generalizing := false) ms with
    | [.ptr .losses l, .av (.v (.int .i64 book)), .av (.v (.int .i64 perm)), .av (.v (.int .i64 moved)), .av (.v (.int .i64 most)), .av (.v (.int .i64 life)), .av (.v (.int .i64 year)), .av (.v (.int .i64 r))] => wfL l.l
    | _ => false) = true := hp
  split at hp
  · exact h _ _ _ _ _ _ _ _ hp
  · simp at hp

end Go.Proofs.Ytbnmmfjdbdbldaa

/-
  Functions on losses compute what Pure says.
-/
namespace Go.Proofs.Ytbnmmfjdbdbldaa
open Go.Abs

/-! what expires -/
theorem expire_jump (year : Int) : ∀ (l : List Vintage) (g : Int) (n : Nat), (∀ v ∈ l, 0 ≤ v.Left ∧ v.Left ≤ 100000000000) → 0 ≤ g → g + left l ≤ 1000000000000 → l.length < n →
    (cfg18 fu0).jumpN 3 18 (scopeOf (bodyOf Try.f18)) n (J18 year g l) ((cfg18 fu0).finK Try.f18 m18 r18) = some ([.av (.v (.int .i64 (g + gone l year)))], [.ptr .losses (LossesO.mk (still l year)), .av (.v undef)])
  | l, g, 0, _, _, _, h => by omega
  | [], g, n + 1, _, _, _, _ => by
    rw [Cfg.jumpN_succ, j18]
    simp [gone, still, left]
  | v :: l, g, n + 1, hm, h0, hs, hn => by
    rw [Cfg.jumpN_succ, j18]
    have hv := hm v (by simp)
    have hl := p_left_nonneg fun u hu => hm u (List.mem_cons_of_mem v hu)
    rw [p_left_cons] at hs
    have c1 : decide ((((v :: l).length : Nat) : Int) > 0) = true := decide_eq_true (by simp)
    have c2 : elt (v :: l) 0 = some v := rfl
    have c3 : decide ((1 : Int) ≤ (((v :: l).length : Nat) : Int)) = true := decide_eq_true (by rw [List.length_cons]; omega)
    have c4 : decide ((((v :: l).length : Nat) : Int) ≤ (((v :: l).length : Nat) : Int)) = true := decide_eq_true (Int.le_refl _)
    have c5 : List.drop 1 (List.take (((v :: l).length : Nat) : Int).toNat (v :: l)) = l := by simp
    simp only [c1, cond_true, c2, c3, c4, Bool.and_true, c5]
    by_cases hx : v.Expiry < year
    · have e1 : gone (v :: l) year = v.Left + gone l year := by simp only [gone, List.takeWhile_cons, hx, decide_true, if_true, p_left_cons]
      have e2 : still (v :: l) year = still l year := by simp only [still, List.dropWhile_cons, hx, decide_true, if_true]
      simp only [hx, decide_true, cond_true]
      rw [IntWalk.i64_in _ (by omega), expire_jump year l (g + v.Left) n (fun u hu => hm u (by simp [hu])) (by omega) (by omega) (by simp at hn; omega), e1, e2, Int.add_assoc]
    · have e1 : gone (v :: l) year = 0 := by simp only [gone, List.takeWhile_cons, hx, decide_false]; rfl
      have e2 : still (v :: l) year = v :: l := by simp only [still, List.dropWhile_cons, hx, decide_false]; rfl
      simp only [hx, decide_false, cond_false, e1, e2, Int.add_zero]

theorem said18 : Said18 := by
  intro l year hw
  obtain ⟨h1, h2, h3, h4⟩ := wfL_iff.1 hw
  have key : (cfg18 fu0).runF 3 18 m18 r18 [.ptr .losses l, .av (.v (.int .i64 year))] = (cfg18 fu0).jumpN 3 18 (scopeOf (bodyOf Try.f18)) 1099511627777 (J18 year 0 l.l) ((cfg18 fu0).finK Try.f18 m18 r18) := by
    rw [e18, Cfg.jumpN_succ, j18]
    simp only [lj18]
  rw [key, expire_jump year l.l 0 _ h2 (by omega) (by omega) (by omega), Int.zero_add]

/-! what is taken -/
theorem walk_ok {β X : Type} (p : X → Bool) (R : Nat → Ex × St) (F : β → Ex × St) : ∀ (l : List X) (a : β) (i : Nat), (l.all p = true ∧ walk (fun a i x => if p x then .inl a else .inr (R i)) F a i l = F a) ∨ (l.all p = false ∧ ∃ j, walk (fun a i x => if p x then .inl a else .inr (R i)) F a i l = R j)
  | [], a, i => .inl ⟨rfl, rfl⟩
  | x :: l, a, i => by
    by_cases hx : p x = true
    · have e : ∀ G, walk (fun (a : β) i x => if p x then .inl a else .inr (R i)) F a i (x :: l) = G ↔ walk (fun a i x => if p x then .inl a else .inr (R i)) F a (i + 1) l = G := fun G => by rw [walk]; simp [hx]
      rcases walk_ok p R F l a (i + 1) with ⟨h1, h2⟩ | ⟨h1, j, h2⟩
      · exact .inl ⟨by simp [hx, h1], (e _).2 h2⟩
      · exact .inr ⟨by simp [hx, h1], j, (e _).2 h2⟩
    · exact .inr ⟨by simp [hx], i, by rw [walk]; simp [hx]⟩

/-- The copy, behind i rounds. -/
def takePre (l : List Vintage) (us : List Int) (i : Nat) : List Vintage := ((l.zip us).take i).map takeE ++ l.drop i

theorem takePre_get {l : List Vintage} {us : List Int} {i : Nat} {p : Vintage × Int} (h : (l.zip us)[i]? = some p) : (takePre l us i)[i]? = some p.1 ∧ (takePre l us i).set i (takeE p) = takePre l us (i + 1) := by
  have hi := (List.getElem?_eq_some_iff.1 h).1
  have hl := (List.getElem?_zip_eq_some.1 h).1
  have hlt := (List.getElem?_eq_some_iff.1 hl).1
  have hlen : (((l.zip us).take i).map takeE).length = i := by rw [List.length_map, List.length_take]; omega
  have hd : l.drop i = p.1 :: l.drop (i + 1) := by
    rw [List.drop_eq_getElem_cons hlt]
    congr 1
    exact Option.some.inj ((List.getElem?_eq_getElem hlt).symm.trans hl)
  unfold takePre
  constructor
  · rw [List.getElem?_append_right (by omega), hlen, Nat.sub_self, hd]; rfl
  · rw [List.set_append_right _ _ (by omega), hlen, Nat.sub_self, hd, List.set_cons_zero, List.take_add_one, h]
    simp

theorem takePre_end {l : List Vintage} {us : List Int} (h : us.length = l.length) : takePre l us us.length = (l.zip us).map takeE := by
  unfold takePre
  rw [List.drop_of_length_le (by omega), List.append_nil, List.take_of_length_le (by rw [List.length_zip]; omega)]

theorem said23 : Said23 := by
  intro l used hp
  simp only [Bool.and_eq_true, decide_eq_true_eq] at hp
  obtain ⟨hw, hu⟩ := hp
  have hu : used.length ≤ 1000 := hu
  obtain ⟨h1, h2, h3, h4⟩ := wfL_iff.1 hw
  rw [e23]
  by_cases hlen : used.length = l.l.length
  · have c1 : (((used.length : Nat) : Int) == ((l.l.length : Nat) : Int)) = true := by simp [hlen]
    simp only [c1, Bool.not_true, cond_false]
    rw [lp23_0]
    have hz : (l.l.zip used).length = used.length := by rw [List.length_zip]; omega
    have get : ∀ {i : Nat} {p : Vintage × Int}, (l.l.zip used)[i]? = some p → l.l[i]? = some p.1 ∧ used[i]? = some p.2 := fun h => List.getElem?_zip_eq_some.1 h
    refine (Cfg.loop_walk (cfg23 fu0) 3 23 _ (l.l.zip used) (fun (_ : Unit) i => S23_0 used (used.length : Nat) (i : Nat) l.l) (fun a i p => if okP p then .inl a else .inr (.ret, S23_0a used (used.length : Nat) (i : Nat) l.l)) (fun _ => (.exit 0, S23_0b used (used.length : Nat) (used.length : Nat) l.l))
      (fun _ _ => True) ?_ ?_ _ _ 0 () trivial (by omega) (by omega)).trans ?_
    · intro a i p _ hx
      obtain ⟨hv, hu'⟩ := get hx
      intro K1 K2
      refine ⟨fun _ _ => trivial, ?_⟩
      rw [r23_0]
      simp only [lt_len hu', nn, cond_true, elt_at hu', elt_at hv, okP]
      by_cases c1 : p.2 < 0
      · simp [c1, show ¬ (0 ≤ p.2) by omega]
      · by_cases c2 : p.2 > p.1.Left
        · simp [c1, c2, show ¬ (p.2 ≤ p.1.Left) by omega]
        · simp only [c1, c2, decide_false, cond_false, show 0 ≤ p.2 by omega, show p.2 ≤ p.1.Left by omega, decide_true, Bool.and_self, if_true]
          rw [succ_i (by omega) hu']
    · intro a _ K1 K2
      rw [hz, r23_0]
      simp only [end_len, cond_false]
    · rw [List.drop_zero]
      rcases walk_ok okP (fun i => (.ret, S23_0a used (used.length : Nat) (i : Nat) l.l)) (fun _ => (.exit 0, S23_0b used (used.length : Nat) (used.length : Nat) l.l)) (l.l.zip used) () 0 with ⟨k1, k2⟩ | ⟨k1, j, k2⟩
      · rw [k2]
        have hok : takeOK l.l used = true := by simp only [takeOK, hlen, decide_true, Bool.true_and]; exact k1
        rw [hok]
        simp only
        rw [c23_0b, hw, cond_true, lp23_1]
        refine (Cfg.loop_fold (cfg23 fu0) 3 23 _ (l.l.zip used) (fun (_ : Unit) i => S23_1 used (used.length : Nat) (i : Nat) l.l (takePre l.l used i)) (fun _ _ => ()) () (.exit 2) (fun _ => S23_1a used (used.length : Nat) (used.length : Nat) l.l (takePre l.l used used.length)) ?_ ?_ _ _ (by omega)).trans ?_
        · intro i p hx K1 K2
          obtain ⟨hv, hu'⟩ := get hx
          obtain ⟨g1, g2⟩ := takePre_get hx
          have hok := List.all_eq_true.1 k1 p (List.mem_of_getElem? hx)
          simp only [okP, Bool.and_eq_true, decide_eq_true_eq] at hok
          have hb := h2 p.1 (List.mem_of_getElem? hv)
          rw [r23_1]
          simp only [lt_len hu', nn, cond_true, elt_at hu', elt_at g1]
          rw [succ_i (by omega) hu', IntWalk.i64_in _ (by omega)]
          have e : setE (takePre l.l used i) (i : Int).toNat (⟨p.1.Origin, p.1.Expiry, p.1.Left - p.2⟩ : Vintage) = takePre l.l used (i + 1) := by
            rw [Int.toNat_natCast]; exact g2
          rw [e]
        · intro K1 K2
          rw [hz, r23_1]
          simp only [end_len, cond_false]
        · rw [c23_1a, takePre_end hlen]
          have c2 : decide (((l.l.zip used).map takeE).length ≤ 1000) = true := decide_eq_true (by rw [List.length_map]; omega)
          simp only [c2, cond_true]
          rfl
      · rw [k2]
        have hok : takeOK l.l used = false := by simp only [takeOK, hlen, decide_true, Bool.true_and]; exact k1
        rw [hok]
        simp only
        rw [c23_0a]
        rfl
  · have c1 : (((used.length : Nat) : Int) == ((l.l.length : Nat) : Int)) = false := by
      rw [beq_eq_false_iff_ne]; omega
    have hok : takeOK l.l used = false := by simp [takeOK, hlen]
    rw [hok]
    simp only [c1, Bool.not_false, cond_true, cond_false]

end Go.Proofs.Ytbnmmfjdbdbldaa

/-
  Losses are added, made, told anew: the functions compute what Pure says.
-/
namespace Go.Proofs.Ytbnmmfjdbdbldaa
open Go.Abs

theorem beq_dec (a b : Int) : (a == b) = decide (a = b) := by by_cases h : a = b <;> simp [h]

/-! a loss more -/
theorem walk_find {β X : Type} (p : X → Bool) (R : Nat → Ex × St) (F : β → Ex × St) : ∀ (l : List X) (a : β) (i : Nat),
    (∃ j x, l[j]? = some x ∧ p x = true ∧ walk (fun a i x => if p x then .inr (R i) else .inl a) F a i l = R (i + j)) ∨ ((∀ x ∈ l, p x = false) ∧ walk (fun a i x => if p x then .inr (R i) else .inl a) F a i l = F a)
  | [], a, i => .inr ⟨by simp, rfl⟩
  | x :: l, a, i => by
    by_cases hx : p x = true
    · exact .inl ⟨0, x, rfl, hx, by rw [walk]; simp [hx]⟩
    · have e : ∀ G, walk (fun (a : β) i x => if p x then .inr (R i) else .inl a) F a i (x :: l) = G ↔ walk (fun a i x => if p x then .inr (R i) else .inl a) F a (i + 1) l = G := fun G => by rw [walk]; simp [hx]
      rcases walk_find p R F l a (i + 1) with ⟨j, y, h1, h2, h3⟩ | ⟨h1, h2⟩
      · refine .inl ⟨j + 1, y, by simpa using h1, h2, (e _).2 ?_⟩
        rw [h3]; congr 1; omega
      · exact .inr ⟨fun y hy => by rcases List.mem_cons.1 hy with rfl | hy; simpa using hx; exact h1 y hy, (e _).2 h2⟩

theorem set_insR {o e n : Int} : ∀ {l : List Vintage} {i : Nat} {x : Vintage}, sortedL l = true → l[i]? = some x → sameKey o e x = true → l.set i ⟨x.Origin, x.Expiry, x.Left + n⟩ = insR o e n l
  | [], i, x, _, hx, _ => by simp at hx
  | v :: l, 0, x, h, hx, hk => by
    obtain rfl : v = x := by simpa using hx
    simp [insR, hk]
  | v :: l, i + 1, x, h, hx, hk => by
    simp only [sortedL, Bool.and_eq_true, List.all_eq_true] at h
    have hx' : l[i]? = some x := by simpa using hx
    have hm := List.mem_of_getElem? hx'
    have h1 : ¬ sameKey o e v = true := fun hs => by
      have := behind_new h.1 (.inl hs) x hm
      rw [hk] at this; simp at this
    have h2 : ¬ ltV ⟨o, e, 0⟩ v = true := fun hs => by
      have := behind_new h.1 (.inr hs) x hm
      rw [hk] at this; simp at this
    simp only [insR, if_neg h1, if_neg h2, List.set_cons_succ]
    rw [set_insR h.2 hx' hk]

theorem any_of_get {o e : Int} {l : List Vintage} {i : Nat} {x : Vintage} (hx : l[i]? = some x) (hk : sameKey o e x = true) : l.any (sameKey o e) = true :=
  List.any_eq_true.2 ⟨x, List.mem_of_getElem? hx, hk⟩

theorem said11 : Said11 := by
  intro l o e n hw
  obtain ⟨h1, h2, h3, h4⟩ := wfL_iff.1 hw
  have hnn := p_left_nonneg h2
  rw [e11, lp11_0, addP_eq h4]
  have c0 : decide (l.l.length ≤ 1000) = true := decide_eq_true (by omega)
  refine (Cfg.loop_walk (cfg11 fu0) 2 25 _ l.l (fun (_ : Unit) i => S11_0 (l.l.length : Nat) (i : Nat) l.l o e n) (fun a i x => if sameKey o e x then .inr (.ret, S11_0a (i : Nat) (l.l.length : Nat) l.l o e n) else .inl a) (fun _ => (.exit 0, S11_0b (l.l.length : Nat) (l.l.length : Nat) l.l o e n))
    (fun _ _ => True) ?_ ?_ _ _ 0 () trivial (by omega) (by omega)).trans ?_
  · intro a i x _ hx K1 K2
    refine ⟨fun _ _ => trivial, ?_⟩
    rw [r11_0]
    simp only [lt_len hx, nn, cond_true, elt_at hx, sameKey, beq_dec]
    rw [succ_i (by omega) hx]
    by_cases c1 : x.Origin = o <;> by_cases c2 : x.Expiry = e <;> simp [c1, c2]
  · intro a _ K1 K2
    rw [r11_0]
    simp only [end_len, cond_false]
  · rw [List.drop_zero]
    rcases walk_find (sameKey o e) (fun i => (.ret, S11_0a (i : Nat) (l.l.length : Nat) l.l o e n)) (fun _ => (.exit 0, S11_0b (l.l.length : Nat) (l.l.length : Nat) l.l o e n)) l.l () 0 with ⟨j, x, hx, hk, k2⟩ | ⟨k1, k2⟩
    · rw [k2]
      simp only [Nat.zero_add]
      rw [c11_0a]
      have ha := any_of_get hx hk
      have hb := h2 x (List.mem_of_getElem? hx)
      simp only [addE, ha, if_true, elt_at hx, nn, cond_true, hw, show decide ((j : Int) ≥ 0) = true from nn j]
      by_cases c1 : rightV o e = true
      · by_cases c2 : n < 1
        · simp [c1, c2]
        · by_cases c3 : money n = true
          · have c3' := p_money.1 c3
            have e3 : IntKind.i64.wrap (left l.l + n) = left l.l + n := IntWalk.i64_in _ (by omega)
            rw [e3, IntWalk.i64_in (x.Left + n) (by omega)]
            by_cases c4 : money (left l.l + n) = true
            · simp only [c1, c2, c3, c4, Bool.not_true, decide_false, cond_false, Bool.or_self, Bool.false_eq_true, if_false, if_true]
              have e4 : setE l.l (j : Int).toNat (⟨x.Origin, x.Expiry, x.Left + n⟩ : Vintage) = insR o e n l.l := by
                rw [Int.toNat_natCast]; exact set_insR h4 hx hk
              rw [e4]
            · simp only [Bool.not_eq_true] at c4
              simp [c1, c2, c3, c4]
          · simp only [Bool.not_eq_true] at c3
            simp [c1, c2, c3]
      · simp only [Bool.not_eq_true] at c1
        simp [c1]
    · rw [k2]
      simp only
      rw [c11_0b]
      have ha : l.l.any (sameKey o e) = false := List.any_eq_false.2 fun x hx => by rw [k1 x hx]; simp
      simp only [addE, ha, hw, cond_true]
      by_cases c1 : rightV o e = true
      · by_cases c2 : n < 1
        · simp [c1, c2]
        · by_cases c3 : money n = true
          · have c3' := p_money.1 c3
            have e3 : IntKind.i64.wrap (left l.l + n) = left l.l + n := IntWalk.i64_in _ (by omega)
            rw [e3]
            by_cases c4 : money (left l.l + n) = true
            · by_cases c5 : l.l.length ≥ 12
              · have c5' : decide (((l.l.length : Nat) : Int) ≥ 12) = true := decide_eq_true (by omega)
                simp only [c1, c2, c3, c4, c5', c5, Bool.not_true, decide_false, cond_false, cond_true, Bool.or_self, Bool.false_eq_true, if_false, if_true]
                rfl
              · have c5' : decide (((l.l.length : Nat) : Int) ≥ 12) = false := decide_eq_false (by omega)
                have c6 : decide ((l.l.length + 1) * 24 ≤ 140737488355328) = true := decide_eq_true (by omega)
                have c7 : decide ((l.l ++ [(⟨o, e, n⟩ : Vintage)]).length ≤ 1000) = true := decide_eq_true (by simp; omega)
                have c8 := distinct_snoc (n := n) (sorted_distinct h4) ha
                have c9 := sort_insR (n := n) h4 ha
                simp only [c1, c2, c3, c4, c5', c5, c6, c7, c8, c9, Bool.not_true, decide_false, cond_false, cond_true, Bool.or_self, Bool.and_self, Bool.false_eq_true, if_false, if_true]
            · simp only [Bool.not_eq_true] at c4
              simp [c1, c2, c3, c4]
          · simp only [Bool.not_eq_true] at c3
            simp [c1, c2, c3]
      · simp only [Bool.not_eq_true] at c1
        simp [c1]

/-! the document's way -/
theorem insFold_len (o e n : Int) : ∀ (l : List Vintage) (a : List Vintage × Bool), (l.foldl (insStep o e n) a).1.length ≤ a.1.length + 2 * l.length
  | [], a => by simp
  | v :: l, a => by
    rw [List.foldl_cons]
    have h1 := insFold_len o e n l (insStep o e n a v)
    have h2 : (insStep o e n a v).1.length ≤ a.1.length + 2 := by
      unfold insStep
      split
      · simp
      · split <;> simp
    simp only [List.length_cons]
    omega

theorem said12 : Said12 := by
  intro l o e n hw
  obtain ⟨h1, h2, h3, h4⟩ := wfL_iff.1 hw
  have hnn := p_left_nonneg h2
  rw [e12, lp12_0]
  simp only [hw, cond_true, addR, addRE]
  by_cases c1 : yearR o = true
  case neg => simp only [Bool.not_eq_true] at c1; simp [c1]
  by_cases c2 : e < o
  case pos => simp [c1, c2]
  by_cases c3 : e > 198
  case pos => simp [c1, c2, c3]
  by_cases c4 : n < 1
  case pos => simp [c1, c2, c3, c4]
  by_cases c5 : n > 100000000000
  case pos => simp [c1, c2, c3, c4, c5]
  rw [IntWalk.i64_in (left l.V + n) (by omega)]
  by_cases c6 : left l.V + n > 100000000000
  case pos => simp [c1, c2, c3, c4, c5, c6]
  simp only [c1, c2, c3, c4, c5, c6, Bool.not_true, decide_false, cond_false, Bool.or_self, Bool.false_eq_true, if_false]
  refine (Cfg.loop_fold (cfg12 fu0) 3 12 _ l.V (fun (a : List Vintage × Bool) i => S12_0 o e n a.2 (l.V.length : Nat) (i : Nat) l.V a.1) (insStep o e n) ([], false) (.exit 0) (fun a => S12_0a o e n a.2 (l.V.length : Nat) (l.V.length : Nat) l.V a.1) ?_ ?_ _ _ (by omega)).trans ?_
  · intro i x hx K1 K2
    have hlt := (List.getElem?_eq_some_iff.1 hx).1
    have hb := insFold_len o e n (l.V.take i) ([], false)
    have hl : (l.V.take i).length ≤ 12 := by rw [List.length_take]; omega
    generalize (l.V.take i).foldl (insStep o e n) ([], false) = a at hb
    simp only [List.length_nil, Nat.zero_add] at hb
    have hx' := h2 x (List.mem_of_getElem? hx)
    have f1 : decide ((a.1.length + 1) * 24 ≤ 140737488355328) = true := decide_eq_true (by omega)
    have f2 : decide (((a.1 ++ [(⟨o, e, n⟩ : Vintage)]).length + 1) * 24 ≤ 140737488355328) = true := decide_eq_true (by simp; omega)
    rw [r12_0]
    simp only [lt_len hx, nn, cond_true, elt_at hx, f1, f2, beq_dec]
    rw [succ_i (by omega) hx, IntWalk.i64_in _ (by omega)]
    simp only [insStep, sameKey]
    clear hx hx'
    obtain ⟨xo, xe, xl⟩ := x
    simp only
    by_cases d1 : xo = o <;> by_cases d2 : xe = e <;> by_cases d3 : xe > e <;> by_cases d4 : xo > o <;> cases d5 : a.2 <;> first | omega | simp [d1, d2, d3, d4]
  · intro K1 K2
    rw [r12_0]
    simp only [end_len, cond_false]
  · have hb := insFold_len o e n l.V ([], false)
    simp only [List.length_nil, Nat.zero_add] at hb
    have hins : ins l.V o e n = (let a := l.V.foldl (insStep o e n) ([], false); if a.2 then a.1 else a.1 ++ [⟨o, e, n⟩]) := rfl
    rw [c12_0a, hins]
    generalize l.V.foldl (insStep o e n) ([], false) = a at hb
    obtain ⟨a1, a2⟩ := a
    simp only at hb
    have f1 : decide ((a1.length + 1) * 24 ≤ 140737488355328) = true := decide_eq_true (by omega)
    simp only [f1, cond_true]
    cases a2
    · simp only [Bool.not_false, cond_true, Bool.false_eq_true, if_false]
      by_cases d6 : (a1 ++ [(⟨o, e, n⟩ : Vintage)]).length > 12
      · have d6' : decide ((((a1 ++ [(⟨o, e, n⟩ : Vintage)]).length : Nat) : Int) > 12) = true := decide_eq_true (by omega)
        simp only [d6', d6, cond_true, if_true]
        rfl
      · have d6' : decide ((((a1 ++ [(⟨o, e, n⟩ : Vintage)]).length : Nat) : Int) > 12) = false := decide_eq_false (by omega)
        simp only [d6', d6, cond_false, if_false, if_true]
    · simp only [Bool.not_true, cond_false, if_true]
      by_cases d6 : a1.length > 12
      · have d6' : decide (((a1.length : Nat) : Int) > 12) = true := decide_eq_true (by omega)
        simp only [d6', d6, cond_true, if_true]
        rfl
      · have d6' : decide (((a1.length : Nat) : Int) > 12) = false := decide_eq_false (by omega)
        simp only [d6', d6, cond_false, if_false, if_true]

end Go.Proofs.Ytbnmmfjdbdbldaa

/-
  Losses are made out of numbers and told to the program; the tax of a period: the functions compute what Pure says.
-/
namespace Go.Proofs.Ytbnmmfjdbdbldaa
open Go.Abs

theorem tdiv_bound {x k : Int} (hx : -9223372036854775808 ≤ x ∧ x ≤ 9223372036854775807) (hk : 2 ≤ k) : -9223372036854775808 ≤ Int.tdiv x k ∧ Int.tdiv x k ≤ 9223372036854775807 := by
  have key : ∀ y : Int, 0 ≤ y → 0 ≤ Int.tdiv y k ∧ Int.tdiv y k ≤ y := fun y hy => by
    rw [Int.tdiv_eq_ediv_of_nonneg hy]
    exact ⟨Int.ediv_nonneg hy (by omega), Int.ediv_le_self k hy⟩
  by_cases h : 0 ≤ x
  · have := key x h; omega
  · have h1 := key (-x) (by omega)
    rw [Int.neg_tdiv] at h1
    omega

theorem i64_iff {n : Int} : i64 n = true ↔ -9223372036854775808 ≤ n ∧ n ≤ 9223372036854775807 := by simp [i64]

theorem wf_nil : wfL [] = true := by decide

theorem losses_wf : ∀ (l : List Int) (V : List Vintage), wfL V = true → wfL (l.foldl lossesStep V) = true
  | [], V, h => h
  | x :: l, V, h => by
    rw [List.foldl_cons]
    exact losses_wf l _ (addR_wf h _ _ _)

theorem said5 : Said5 := by
  intro l hp
  simp only [allI64, List.all_eq_true] at hp
  rw [e5, lp5_0]
  have hlen : (l.take 8).length ≤ 8 := by rw [List.length_take]; omega
  refine (Cfg.loop_fold (cfg5 fu0) 3 5 _ (l.take 8) (fun V i => S5_0 l (i : Nat) V) lossesStep [] (.exit 0) (fun V => S5_0a l ((l.take 8).length : Nat) V) ?_ ?_ _ _ (by omega)).trans ?_
  · intro i x hx K1 K2
    have hlt := (List.getElem?_eq_some_iff.1 hx).1
    rw [List.length_take] at hlt
    have hx' : l[i]? = some x := by rw [List.getElem?_take_of_lt (by omega)] at hx; exact hx
    have hb := i64_iff.1 (hp x (List.mem_of_getElem? hx'))
    have hw := losses_wf ((l.take 8).take i) [] wf_nil
    have c1 : decide ((i : Int) < 8) = true := decide_eq_true (by omega)
    have w1 := within_lt x (n := 5) (by omega)
    have w2 := within_lt (Int.tdiv x 5) (n := 5) (by omega)
    have t1 := tdiv_bound hb (k := 25) (by omega)
    rw [r5_0]
    simp only [lt_len hx', nn, cond_true, elt_at hx', c1]
    rw [tdiv_in hb (by omega), tdiv_in hb (by omega), IntWalk.i64_in (within x 5 + _) (by omega)]
    have c2 : (decide (-9223372036854775808 ≤ Int.tdiv x 25) && decide (Int.tdiv x 25 ≤ 9223372036854775807)) = true := by simp [t1]
    rw [c2]
    simp only [cond_true, hw]
    rw [IntWalk.i64_in ((i : Int) + 1) (by omega)]
    rfl
  · intro K1 K2
    rw [r5_0]
    rw [List.length_take]
    by_cases h8 : l.length ≤ 8
    · have e : min 8 l.length = l.length := by omega
      rw [e]
      simp only [end_len, cond_false]
    · have e : min 8 l.length = 8 := by omega
      rw [e]
      have c1 : decide (((8 : Nat) : Int) < 8) = false := by decide
      simp only [c1, cond_false]
      cases decide (((8 : Nat) : Int) < (l.length : Int)) <;> rfl
  · rw [c5_0a]
    rfl

/-! the program's losses out of the document's -/
theorem ofStep_false (v : Vintage) (l : List Vintage) : ofStep (l, false) v = (l, false) := by simp [ofStep]
theorem of_false : ∀ (x l : List Vintage), x.foldl ofStep (l, false) = (l, false)
  | [], _ => rfl
  | v :: x, l => by rw [List.foldl_cons, ofStep_false, of_false x]

/-- The rounds. -/
def ofWalk (R : List Vintage → Nat → Ex × St) (a : List Vintage) (i : Nat) (v : Vintage) : List Vintage ⊕ (Ex × St) :=
  if addE a v.Origin v.Expiry v.Left = 0 then .inl (addP a v.Origin v.Expiry v.Left) else .inr (R (addP a v.Origin v.Expiry v.Left) i)

theorem of_walk (R : List Vintage → Nat → Ex × St) (F : List Vintage → Ex × St) : ∀ (x a : List Vintage) (i : Nat),
    ((x.foldl ofStep (a, true)).2 = true ∧ walk (ofWalk R) F a i x = F (x.foldl ofStep (a, true)).1) ∨ ((x.foldl ofStep (a, true)).2 = false ∧ ∃ b j, walk (ofWalk R) F a i x = R b j)
  | [], a, i => .inl ⟨rfl, rfl⟩
  | v :: x, a, i => by
    rw [List.foldl_cons]
    by_cases h : addE a v.Origin v.Expiry v.Left = 0
    · have e : ofStep (a, true) v = (addP a v.Origin v.Expiry v.Left, true) := by simp [ofStep, h]
      have e2 : walk (ofWalk R) F a i (v :: x) = walk (ofWalk R) F (addP a v.Origin v.Expiry v.Left) (i + 1) x := by
        rw [walk, show ofWalk R a i v = .inl (addP a v.Origin v.Expiry v.Left) by simp [ofWalk, h]]
      rw [e, e2]
      exact of_walk R F x _ _
    · have e : ofStep (a, true) v = (a, false) := by simp [ofStep, h]
      rw [e, of_false]
      exact .inr ⟨rfl, addP a v.Origin v.Expiry v.Left, i, by rw [walk, show ofWalk R a i v = .inr (R (addP a v.Origin v.Expiry v.Left) i) by simp [ofWalk, h]]⟩

theorem said4 : Said4 := by
  intro x hw
  obtain ⟨h1, h2, h3, h4⟩ := wfL_iff.1 hw
  rw [e4, lp4_0]
  refine (Cfg.loop_walk (cfg4 fu0) 3 4 _ x.V (fun a i => S4_0 (x.V.length : Nat) (i : Nat) a x.V) (ofWalk fun a i => (.ret, S4_0a (x.V.length : Nat) (i : Nat) a x.V)) (fun a => (.exit 0, S4_0b (x.V.length : Nat) (x.V.length : Nat) a x.V))
    (fun a _ => wfL a = true) ?_ ?_ _ _ 0 [] wf_nil (by omega) (by omega)).trans ?_
  · intro a i v ha hx K1 K2
    refine ⟨fun a' h' => ?_, ?_⟩
    · unfold ofWalk at h'
      split at h'
      · simp only [Sum.inl.injEq] at h'
        subst h'
        exact (addP_wf ha _ _ _).1
      · simp at h'
    · rw [r4_0]
      simp only [lt_len hx, nn, cond_true, elt_at hx, ha, ofWalk, beq_dec]
      rw [succ_i (by omega) hx]
      by_cases h : addE a v.Origin v.Expiry v.Left = 0 <;> simp [h]
  · intro a ha K1 K2
    rw [r4_0]
    simp only [end_len, cond_false]
  · rw [List.drop_zero]
    rcases of_walk (fun a i => (.ret, S4_0a (x.V.length : Nat) (i : Nat) a x.V)) (fun a => (.exit 0, S4_0b (x.V.length : Nat) (x.V.length : Nat) a x.V)) x.V [] 0 with ⟨k1, k2⟩ | ⟨k1, b, j, k2⟩
    · rw [k2]
      simp only
      rw [c4_0b]
      simp only [ofL, k1, cond_true]
      rfl
    · rw [k2]
      simp only
      rw [c4_0a]
      simp only [ofL, k1, cond_false]

/-! the tax of a period -/
theorem said7 : Said7 := by
  intro l book perm moved most life year r hw
  rw [e7]
  simp only [taxE]
  by_cases c1 : rightR most = true
  case neg => simp only [Bool.not_eq_true] at c1; simp [c1]
  by_cases c2 : rightR r = true
  case neg => simp only [Bool.not_eq_true] at c2; simp [c1, c2]
  by_cases c3 : yearR life = true
  case neg => simp only [Bool.not_eq_true] at c3; simp [c1, c2, c3]
  by_cases c4 : yearR year = true
  case neg => simp only [Bool.not_eq_true] at c4; simp [c1, c2, c3, c4]
  by_cases c5 : incomeOK book perm moved = true
  case neg => simp only [Bool.not_eq_true] at c5; simp [c1, c2, c3, c4, c5]
  have b1 := p_rightR.1 c1
  have b2 := p_rightR.1 c2
  have b3 := p_yearR.1 c3
  have b4 := p_yearR.1 c4
  have b5 : money (incomeP book perm moved) = true := by
    simp only [incomeOK, Bool.and_eq_true] at c5; exact c5.2
  have b5 := p_money.1 b5
  obtain ⟨hw', hg⟩ := still_wf hw year
  simp only [c1, c2, c3, c4, c5, hw, Bool.not_true, cond_false, cond_true, Bool.or_self, Bool.false_eq_true, if_false]
  simp only [taxR, taxL]
  generalize hinc : incomeP book perm moved = income at b5 ⊢
  obtain ⟨v1, v2, v3, v4, v5⟩ := vector_facts hw' year (roomP income most)
  have hroom := room_facts income most b1 (by omega)
  have hlen : (still l.l year).length ≤ 12 := (wfL_iff.1 hw').1
  by_cases c6 : income > 0
  · have d1 : decide (roomP income most ≤ 1000000000000) = true := decide_eq_true (by omega)
    have d2 : decide ((vector (still l.l year) year (roomP income most)).length ≤ 1000) = true := decide_eq_true (by rw [v1]; omega)
    have d3 : allSmall (vector (still l.l year) year (roomP income most)) = true := by
      simp only [allSmall, List.all_eq_true]
      intro x hx
      have := v5 x hx
      exact small_iff.2 (by omega)
    have n6 : ¬ income < 0 := by omega
    have ev : taxV l.l income most year = vector (still l.l year) year (roomP income most) := by simp [taxV, c6]
    have en : taxNew income = 0 := by simp [taxNew, n6]
    have et : taxable l.l income most year = income - (vector (still l.l year) year (roomP income most)).sum := by simp [taxable, ev, en]
    have es : sumI (vector (still l.l year) year (roomP income most)) = (vector (still l.l year) year (roomP income most)).sum := rfl
    rw [es, IntWalk.i64_in (income - _) (by omega), IntWalk.i64_in (income - _ + 0) (by omega), Int.add_zero, ev, en, et]
    simp only [c6, n6, decide_true, cond_true, if_true, if_false, hw', d1, d2, d3, Bool.and_self, v2]
    by_cases c7 : ofOK (income - (vector (still l.l year) year (roomP income most)).sum) r = true
    · simp only [c7, cond_true, if_true]
    · simp only [Bool.not_eq_true] at c7
      simp only [c7, cond_false, Bool.false_eq_true, if_false]
  · have ev : taxV l.l income most year = [] := by simp [taxV, c6]
    by_cases c7 : income < 0
    · have en : taxNew income = -income := by simp [taxNew, c7]
      have et : taxable l.l income most year = 0 := by simp [taxable, ev, en]; omega
      have ei : (0 : Int) - income = -income := by omega
      rw [IntWalk.i64_in (year + life) (by omega), IntWalk.i64_in (0 - income) (by omega), IntWalk.i64_in (income - 0) (by omega), ei, IntWalk.i64_in (income - 0 + -income) (by omega), show income - 0 + -income = 0 by omega, ev, en, et]
      simp only [c6, c7, decide_false, decide_true, cond_true, cond_false, if_true, if_false, hw', beq_dec, List.sum_nil]
      by_cases c8 : addE (still l.l year) year (year + life) (-income) = 0
      · simp only [c8, decide_true, Bool.not_true, cond_false, cond_true]
        by_cases c9 : ofOK 0 r = true
        · simp only [c9, cond_true, if_true]
        · simp only [Bool.not_eq_true] at c9
          simp only [c9, cond_false, Bool.false_eq_true, if_false]
      · simp only [c8, decide_false, Bool.not_false, cond_true, cond_false]
    · have en : taxNew income = 0 := by simp [taxNew, c7]
      have et : taxable l.l income most year = income := by simp [taxable, ev, en]
      rw [IntWalk.i64_in (income - 0) (by omega), IntWalk.i64_in (income - 0 + 0) (by omega), show income - 0 + 0 = income by omega, ev, en, et]
      simp only [c6, c7, decide_false, decide_true, cond_true, cond_false, if_true, if_false, List.sum_nil]
      by_cases c9 : ofOK income r = true
      · simp only [c9, cond_true, if_true]
      · simp only [Bool.not_eq_true] at c9
        simp only [c9, cond_false, Bool.false_eq_true, if_false]

end Go.Proofs.Ytbnmmfjdbdbldaa

/-
  Losses are conserved: the plain law of CurrentLaws.
-/
namespace Go.Proofs.Ytbnmmfjdbdbldaa
open Go.Abs

theorem p_within (v : Int) {n : Int} (hn : 1 ≤ n) : 0 ≤ within v n ∧ within v n < n := by
  unfold within
  rw [if_neg (by omega)]
  exact ⟨Int.emod_nonneg v (by omega), Int.emod_lt_of_pos v (by omega)⟩

/-! the losses that are made -/
def goodV (v : Vintage) : Prop := rightV v.Origin v.Expiry = true ∧ 1 ≤ v.Left

theorem rightV_iff {o e : Int} : rightV o e = true ↔ 0 ≤ o ∧ o ≤ 99 ∧ o ≤ e ∧ e ≤ 198 := by
  simp only [rightV, Bool.and_eq_true, decide_eq_true_eq, and_assoc, ge_iff_le]

theorem insR_good {o e n : Int} (hr : rightV o e = true) (hn : 1 ≤ n) : ∀ {l : List Vintage}, (∀ v ∈ l, goodV v) → ∀ v ∈ insR o e n l, goodV v
  | [], _, v, hv => by simp [insR] at hv; subst hv; exact ⟨hr, hn⟩
  | u :: l, h, v, hv => by
    unfold insR at hv
    split at hv
    · rcases List.mem_cons.1 hv with rfl | hv
      · have := h u (by simp); exact ⟨this.1, by have := this.2; simp only; omega⟩
      · exact h v (by simp [hv])
    · split at hv
      · rcases List.mem_cons.1 hv with rfl | hv
        · exact ⟨hr, hn⟩
        · exact h v hv
      · rcases List.mem_cons.1 hv with rfl | hv
        · exact h _ (by simp)
        · exact insR_good hr hn (fun w hw => h w (by simp [hw])) v hv

theorem addR_good {l : List Vintage} (hw : wfL l = true) (h : ∀ v ∈ l, goodV v) (o e n : Int) : (∀ v ∈ addR l o e n, goodV v) ∧ (addR l o e n).length ≤ l.length + 1 := by
  unfold addR
  split
  · rename_i hE
    rw [ins_eq (p_wfL.1 hw).2.2.2]
    unfold addRE at hE
    split at hE
    · simp at hE
    · rename_i c1
      simp only [Bool.or_eq_true, Bool.not_eq_true', decide_eq_true_eq, not_or, Bool.not_eq_false] at c1
      obtain ⟨⟨⟨⟨c1, c2⟩, c3⟩, c4⟩, c5⟩ := c1
      have c1 := p_yearR.1 c1
      exact ⟨insR_good (rightV_iff.2 (by omega)) (by omega) h, length_insR o e n l⟩
  · exact ⟨h, by omega⟩

theorem made_good : ∀ (l : List Int) (V : List Vintage), wfL V = true → (∀ v ∈ V, goodV v) → wfL (l.foldl lossesStep V) = true ∧ (∀ v ∈ l.foldl lossesStep V, goodV v) ∧ (l.foldl lossesStep V).length ≤ V.length + l.length
  | [], V, h1, h2 => ⟨h1, h2, by simp⟩
  | x :: l, V, h1, h2 => by
    rw [List.foldl_cons]
    obtain ⟨a1, a2⟩ := addR_good h1 h2 (within x 5) (within x 5 + within (Int.tdiv x 5) 5) (max (amount (Int.tdiv x 25)) 1)
    obtain ⟨b1, b2, b3⟩ := made_good l (lossesStep V x) (addR_wf h1 _ _ _) a1
    refine ⟨b1, b2, ?_⟩
    have : (lossesStep V x).length ≤ V.length + 1 := a2
    simp only [List.length_cons]
    omega

theorem lossesR_good (l : List Int) : wfL (lossesR l) = true ∧ (∀ v ∈ lossesR l, goodV v) ∧ (lossesR l).length ≤ 8 := by
  obtain ⟨h1, h2, h3⟩ := made_good (l.take 8) [] (by decide) (by simp)
  refine ⟨h1, h2, ?_⟩
  have : (l.take 8).length ≤ 8 := by rw [List.length_take]; omega
  simp only [List.length_nil] at h3
  unfold lossesR
  omega

theorem left_nn : ∀ {l : List Vintage}, (∀ v ∈ l, 0 ≤ v.Left) → 0 ≤ left l
  | [], _ => by simp [left]
  | v :: l, h => by
    rw [p_left_cons]
    have := h v (by simp)
    have := left_nn (l := l) fun u hu => h u (by simp [hu])
    omega

/-! they are told to the program -/
theorem told : ∀ (x a : List Vintage), (∀ v ∈ x, goodV v) → wfL a = true → left a + left x ≤ 100000000000 → a.length + x.length ≤ 12 →
    (x.foldl ofStep (a, true)).2 = true ∧ wfL (x.foldl ofStep (a, true)).1 = true
  | [], a, _, h, _, _ => ⟨rfl, h⟩
  | v :: x, a, hg, h, hs, hl => by
    have hv := hg v (by simp)
    have hr := hv.1
    have hn := hv.2
    rw [p_left_cons] at hs
    have hx : 0 ≤ left x := left_nn fun u hu => by have := (hg u (by simp [hu])).2; omega
    have ha := p_left_nonneg (p_wfL.1 h).2.1
    have hE : addE a v.Origin v.Expiry v.Left = 0 := by
      have c1 : money v.Left = true := p_money.2 (by omega)
      have c2 : money (left a + v.Left) = true := p_money.2 (by omega)
      have c3 : ¬ a.length ≥ 12 := by simp at hl; omega
      unfold addE
      rw [if_neg (by simp [hr, c1]; omega), if_neg (by simp [c2])]
      by_cases c4 : a.any (sameKey v.Origin v.Expiry) = true
      · rw [if_pos c4]
      · rw [if_neg c4, if_neg c3]
    have e : ofStep (a, true) v = (addP a v.Origin v.Expiry v.Left, true) := by simp [ofStep, hE]
    rw [List.foldl_cons, e]
    obtain ⟨w1, w2⟩ := addP_wf h v.Origin v.Expiry v.Left
    refine told x _ (fun u hu => hg u (by simp [hu])) w1 (by rw [w2 hE]; omega) ?_
    have : (addP a v.Origin v.Expiry v.Left).length ≤ a.length + 1 := by
      rw [addP_eq (p_wfL.1 h).2.2.2, if_pos hE]
      exact length_insR _ _ _ _
    simp at hl
    omega

theorem of_ok (l : List Int) : ofL (lossesR l) = true ∧ wfL (ofP (lossesR l)) = true := by
  obtain ⟨h1, h2, h3⟩ := lossesR_good l
  have := told (lossesR l) [] h2 (by decide) (by have := (p_wfL.1 h1).2.2.1; simp [left] at this ⊢; exact this) (by simp; omega)
  exact this

/-! the law -/
theorem tax_facts {W : List Vintage} (hw : wfL W = true) {B P M c life year r : Int} (hB : -10000 ≤ B ∧ B ≤ 10000) (hP : -1000 ≤ P ∧ P ≤ 1000) (hM : -1000 ≤ M ∧ M ≤ 1000) (hc : 0 ≤ c ∧ c ≤ 1000000) (hl : 0 ≤ life ∧ life ≤ 4) (hy : 0 ≤ year ∧ year ≤ 8) (hr : 0 ≤ r ∧ r ≤ 1000000)
    {E : Int} {t : Result} {L : List Vintage} (hE : taxE W B P M c life year r = E) (ht : taxR W B P M c life year r = t) (hL : taxL W B P M c life year r = L) :
    (E = 0 ∨ E = 5 ∨ E = 6) ∧ (E = 0 → wfL L = true ∧ t.Income = B + P - M ∧ left W + t.New = left L + t.Used + t.Expired ∧ 0 ≤ t.Taxable ∧ 0 ≤ t.Tax ∧ t.Tax ≤ t.Taxable ∧ 0 ≤ t.Used ∧ 0 ≤ t.New ∧ 0 ≤ t.Expired ∧
      (0 < t.Income → t.Taxable = t.Income - t.Used ∧ t.New = 0 ∧ t.Used * 1000000 ≤ t.Income * c) ∧ (t.Income ≤ 0 → t.Taxable = 0 ∧ t.Tax = 0 ∧ t.Used = 0 ∧ t.New = -t.Income ∧ t.Vector = []) ∧
      -1000000 ≤ 2 * (t.Taxable * r - t.Tax * 1000000) ∧ 2 * (t.Taxable * r - t.Tax * 1000000) ≤ 1000000 ∧ t.Taxable ≤ 12000 ∧ t.Used ≤ 12000 ∧ t.New ≤ 12000 ∧ t.Expired ≤ 100000000000) := by
  have c1 : rightR c = true := p_rightR.2 hc
  have c2 : rightR r = true := p_rightR.2 hr
  have c3 : yearR life = true := p_yearR.2 (by omega)
  have c4 : yearR year = true := p_yearR.2 (by omega)
  have c5 : incomeOK B P M = true := by
    simp only [incomeOK, Bool.and_eq_true]
    exact ⟨⟨⟨p_money.2 (by omega), p_money.2 (by omega)⟩, p_money.2 (by omega)⟩, p_money.2 (by omega)⟩
  obtain ⟨hw', hg⟩ := still_wf hw year
  have hgs := gone_still W year
  have hW := p_left_nonneg (p_wfL.1 hw).2.1
  have hW' := (p_wfL.1 hw).2.2.1
  have hS := p_left_nonneg (p_wfL.1 hw').2.1
  simp only [taxE, c1, c2, c3, c4, c5, Bool.not_true, Bool.or_self, Bool.false_eq_true, if_false] at hE
  simp only [taxR] at ht
  simp only [taxL] at hL
  have hi : incomeP B P M = B + P - M := rfl
  rw [hi] at hE ht hL
  generalize hinc : B + P - M = income at hE ht hL ⊢
  obtain ⟨v1, v2, v3, v4, v5⟩ := vector_facts hw' year (roomP income c)
  have hroom := room_facts income c hc (by omega)
  subst ht
  dsimp only
  by_cases c6 : income > 0
  · have n6 : ¬ income < 0 := by omega
    have ev : taxV W income c year = vector (still W year) year (roomP income c) := by simp [taxV, c6]
    have en : taxNew income = 0 := by simp [taxNew, n6]
    have et : taxable W income c year = income - (vector (still W year) year (roomP income c)).sum := by simp [taxable, ev, en]
    rw [if_neg n6] at hE
    rw [if_pos c6, ev, if_pos v2] at hL
    subst hL
    obtain ⟨w1, w2⟩ := takeP_wf hw' v2
    have hok : ofOK (taxable W income c year) r = true := by
      simp only [ofOK, Bool.and_eq_true, decide_eq_true_eq, et]; omega
    obtain ⟨q1, q2, q3, q4⟩ := part_facts (n := taxable W income c year) (r := r) (by rw [et]; omega) (by rw [et]; omega) hr
    refine ⟨.inl hE.symm, fun _ => ⟨w1, rfl, ?_⟩⟩
    rw [if_pos hok, ev, en, w2]
    rw [et] at q1 q2 q3 q4 ⊢
    have hu : (vector (still W year) year (roomP income c)).sum * 1000000 ≤ income * c := by
      have := hroom.2.2 c6
      omega
    refine ⟨by omega, by omega, q1, q2, v3, by omega, hg, fun _ => ⟨rfl, rfl, hu⟩, fun h => absurd h (by omega), q3, q4, by omega, by omega, by omega, by omega⟩
  · have ev : taxV W income c year = [] := by simp [taxV, c6]
    by_cases c7 : income < 0
    · have en : taxNew income = -income := by simp [taxNew, c7]
      have et : taxable W income c year = 0 := by simp [taxable, ev, en]; omega
      rw [if_pos c7] at hE
      rw [if_neg c6, if_pos c7] at hL
      subst hL
      obtain ⟨w1, w2⟩ := addP_wf hw' year (year + life) (-income)
      have hok : ofOK 0 r = true := by simp only [ofOK, Bool.and_eq_true, decide_eq_true_eq]; omega
      obtain ⟨q1, q2, q3, q4⟩ := part_facts (n := 0) (r := r) (by omega) (by omega) hr
      refine ⟨?_, fun h0 => ⟨w1, rfl, ?_⟩⟩
      · rcases addE_vals (still W year) year (year + life) (-income) with h | h | h | h
        · exact .inl (by omega)
        · exfalso
          unfold addE at h
          have d1 : rightV year (year + life) = true := rightV_iff.2 (by omega)
          have d2 : money (-income) = true := p_money.2 (by omega)
          rw [if_neg (by simp [d1, d2]; omega)] at h
          repeat' split at h
          all_goals omega
        · exact .inr (.inl (by omega))
        · exact .inr (.inr (by omega))
      · rw [et, if_pos hok, ev, en, w2 (by omega)]
        rw [List.sum_nil]
        have hp0 : part 0 r = 0 := by omega
        refine ⟨by omega, by omega, q1, q2, by omega, by omega, hg, fun h => absurd h (by omega), fun _ => ⟨rfl, hp0, rfl, rfl, rfl⟩, q3, q4, by omega, by omega, by omega, by omega⟩
    · have hz : income = 0 := by omega
      have en : taxNew income = 0 := by simp [taxNew, c7]
      have et : taxable W income c year = 0 := by simp only [taxable, ev, en, List.sum_nil]; omega
      rw [if_neg c7] at hE
      rw [if_neg c6, if_neg c7] at hL
      subst hL
      have hok : ofOK 0 r = true := by simp only [ofOK, Bool.and_eq_true, decide_eq_true_eq]; omega
      obtain ⟨q1, q2, q3, q4⟩ := part_facts (n := 0) (r := r) (by omega) (by omega) hr
      refine ⟨.inl hE.symm, fun _ => ⟨hw', rfl, ?_⟩⟩
      rw [et, if_pos hok, ev, en]
      rw [List.sum_nil]
      have hp0 : part 0 r = 0 := by omega
      refine ⟨by omega, by omega, q1, q2, by omega, by omega, hg, fun h => absurd h (by omega), fun _ => ⟨rfl, hp0, rfl, by omega, rfl⟩, q3, q4, by omega, by omega, by omega, by omega⟩

end Go.Proofs.Ytbnmmfjdbdbldaa

/-
  Functions, gone through in pieces.
-/
namespace Go.Proofs.Ytbnmmfjdbdbldaa
open Go.Abs

-- slices.DeleteFunc[[]scutage/api.Vintage,scutage/api.Vintage]
noncomputable def cfg38 (fu : Nat → Nat → Nat) : Cfg where
  P := Try.prog
  Γ := lookC []
  ann := fun g => bif Nat.beq g 38 then ⟨fu 38, fun k => bif Nat.beq k 5 then [0, 1, 4, 5, 6] else []⟩ else bif Nat.beq g 25 then ⟨fu 25, fun k => bif Nat.beq k 2 then [0, 1, 4, 7, 8] else []⟩ else bif Nat.beq g 39 then ⟨fu 39, fun k => []⟩ else ⟨fu g, fun _ => []⟩
  inl := [25, 39]
def S38_0 (t7 : Int) (t8 : Int) (h0 : List Vintage) : St :=
  ⟨fr 19 [(0, .sl 0), (1, .fn 39 []), (4, .v (.int .i64 (0 : Int))), (7, .v (.int .i64 t7)), (8, .v (.int .i64 t8))], [fr 42 [(0, .sl 0), (1, .fn 39 []), (4, .sl 1), (8, .sl 0), (9, .fn 39 [])], fr 2 [(0, .sl 0), (1, .fn 39 [])]], hpL [.arr (D := dom) .vintage h0, .arr (D := dom) .vintage ([] : List Vintage)], 2⟩
def S38_0a (t4 : Int) (t7 : Int) (h0 : List Vintage) : St :=
  ⟨fr 19 [(0, .sl 0), (1, .fn 39 []), (4, .v (.int .i64 t4)), (7, .v (.int .i64 t7)), (8, .v (.int .i64 t4))], [fr 42 [(0, .sl 0), (1, .fn 39 []), (4, .sl 1), (8, .sl 0), (9, .fn 39 [])], fr 2 [(0, .sl 0), (1, .fn 39 [])]], hpL [.arr (D := dom) .vintage h0, .arr (D := dom) .vintage ([] : List Vintage)], 2⟩
def S38_0b (t7 : Int) (t8 : Int) (h0 : List Vintage) : St :=
  ⟨fr 19 [(0, .sl 0), (1, .fn 39 []), (4, .v (.int .i64 (0 : Int))), (7, .v (.int .i64 t7)), (8, .v (.int .i64 t8))], [fr 42 [(0, .sl 0), (1, .fn 39 []), (4, .sl 1), (8, .sl 0), (9, .fn 39 [])], fr 2 [(0, .sl 0), (1, .fn 39 [])]], hpL [.arr (D := dom) .vintage h0, .arr (D := dom) .vintage ([] : List Vintage)], 2⟩
def S38_1 (i5 : Int) (j6 : Int) (h0 : List Vintage) : St :=
  ⟨fr 42 [(0, .sl 0), (1, .fn 39 []), (4, .sl 1), (5, .v (.int .i64 i5)), (6, .v (.int .i64 j6))], [fr 2 [(0, .sl 0), (1, .fn 39 [])]], hpL [.arr (D := dom) .vintage h0, .arr (D := dom) .vintage ([] : List Vintage)], 2⟩
def S38_1a (i5 : Int) (j6 : Int) (h0 : List Vintage) : St :=
  ⟨fr 42 [(0, .sl 0), (1, .fn 39 []), (4, .sl 1), (5, .v (.int .i64 i5)), (6, .v (.int .i64 j6))], [fr 2 [(0, .sl 0), (1, .fn 39 [])]], hpL [.arr (D := dom) .vintage h0, .arr (D := dom) .vintage ([] : List Vintage)], 2⟩
theorem e38 (fu : Nat → Nat → Nat) (s : List Vintage) : (cfg38 fu).runF 3 38 m38 r38 [.arr .vintage s, .av (.fn 39 [])] =
    (cfg38 fu).loop 2 25 (loopOf (codeAt (bodyOf Try.f25) [true, false, true, false])) (S38_0 ((s.length : Nat) : Int) (0 : Int) s) ((cfg38 fu).cont 2 25 (bodyOf Try.f25) [true, false, true, false] ((cfg38 fu).retK Try.f25 ((cfg38 fu).opK 3 (opsOf (codeAt (bodyOf Try.f38) [true, false])) 2 ((cfg38 fu).cont 3 38 (bodyOf Try.f38) [true, false] ((cfg38 fu).finK Try.f38 m38 r38))))) := by
  kernel_rfl
theorem r38_0 {α : Type} (fu : Nat → Nat → Nat) (t7 : Int) (t8 : Int) (h0 : List Vintage) (K1 : St → Option α) (K2 : Ex → St → Option α): (cfg38 fu).run 2 25 (loopOf (codeAt (bodyOf Try.f25) [true, false, true, false])) (S38_0 t7 t8 h0) ((cfg38 fu).roundK 25 (loopOf (codeAt (bodyOf Try.f25) [true, false, true, false])) K1 K2) =
    bif (decide (t8 < t7)) then
    bif (decide (0 ≤ t8)) then
    (match elt h0 t8.toNat with
    | none => none
    | some x1 => (match elt h0 t8.toNat with
      | none => none
      | some x2 => bif (x2.Left == (0 : Int)) then
        K2 .ret (S38_0a t8 t7 h0)
        else
        K1 (S38_0 t7 (IntKind.i64.wrap (t8 + (1 : Int))) h0)))
    else
    none
    else
    K2 (.exit 0) (S38_0b t7 t8 h0) := by
  kernel_rfl
theorem c38_0a (fu : Nat → Nat → Nat) (t4 : Int) (t7 : Int) (h0 : List Vintage) : ((cfg38 fu).cont 2 25 (bodyOf Try.f25) [true, false, true, false] ((cfg38 fu).retK Try.f25 ((cfg38 fu).opK 3 (opsOf (codeAt (bodyOf Try.f38) [true, false])) 2 ((cfg38 fu).cont 3 38 (bodyOf Try.f38) [true, false] ((cfg38 fu).finK Try.f38 m38 r38))))) .ret (S38_0a t4 t7 h0) =
    bif (t4 == (-1 : Int)) then
    some ([.arr .vintage h0], [.av (.v undef), .av (.v undef)])
    else
    (cfg38 fu).loop 3 38 (loopOf (codeAt (bodyOf Try.f38) [true, true, true, false, true, false])) (S38_1 t4 (IntKind.i64.wrap (t4 + (1 : Int))) h0) ((cfg38 fu).cont 3 38 (bodyOf Try.f38) [true, true, true, false, true, false] ((cfg38 fu).finK Try.f38 m38 r38)) := by
  kernel_rfl
theorem c38_0b (fu : Nat → Nat → Nat) (t7 : Int) (t8 : Int) (h0 : List Vintage) : ((cfg38 fu).cont 2 25 (bodyOf Try.f25) [true, false, true, false] ((cfg38 fu).retK Try.f25 ((cfg38 fu).opK 3 (opsOf (codeAt (bodyOf Try.f38) [true, false])) 2 ((cfg38 fu).cont 3 38 (bodyOf Try.f38) [true, false] ((cfg38 fu).finK Try.f38 m38 r38))))) (.exit 0) (S38_0b t7 t8 h0) =
    some ([.arr .vintage h0], [.av (.v undef), .av (.v undef)]) := by
  kernel_rfl
theorem r38_1 {α : Type} (fu : Nat → Nat → Nat) (i5 : Int) (j6 : Int) (h0 : List Vintage) (K1 : St → Option α) (K2 : Ex → St → Option α): (cfg38 fu).run 3 38 (loopOf (codeAt (bodyOf Try.f38) [true, true, true, false, true, false])) (S38_1 i5 j6 h0) ((cfg38 fu).roundK 38 (loopOf (codeAt (bodyOf Try.f38) [true, true, true, false, true, false])) K1 K2) =
    bif (decide (j6 < ((h0.length : Nat) : Int))) then
    bif (decide (0 ≤ j6)) then
    (match elt h0 j6.toNat with
    | none => none
    | some x3 => (match elt h0 j6.toNat with
      | none => none
      | some x4 => bif (!(x4.Left == (0 : Int))) then
        bif (decide (0 ≤ i5)) then
        (match elt h0 i5.toNat with
        | none => none
        | some x5 => (match elt h0 i5.toNat with
          | none => none
          | some x6 => K1 (S38_1 (IntKind.i64.wrap (i5 + (1 : Int))) (IntKind.i64.wrap (j6 + (1 : Int))) (setE h0 i5.toNat (Vintage.mk x4.Origin x4.Expiry x4.Left)))))
        else
        none
        else
        K1 (S38_1 i5 (IntKind.i64.wrap (j6 + (1 : Int))) h0)))
    else
    none
    else
    K2 (.exit 0) (S38_1a i5 j6 h0) := by
  kernel_rfl
theorem c38_1a (fu : Nat → Nat → Nat) (i5 : Int) (j6 : Int) (h0 : List Vintage) : ((cfg38 fu).cont 3 38 (bodyOf Try.f38) [true, true, true, false, true, false] ((cfg38 fu).finK Try.f38 m38 r38)) (.exit 0) (S38_1a i5 j6 h0) =
    bif ((decide ((0 : Int) ≤ i5)) && (decide (i5 ≤ ((h0.length : Nat) : Int)))) then
    bif ((decide ((0 : Int) ≤ i5)) && (decide (i5 ≤ (((h0.take i5.toNat ++ List.replicate (h0.length - i5.toNat) (Vintage.mk (0 : Int) (0 : Int) (0 : Int))).length : Nat) : Int)))) then
    some ([.arr .vintage (((h0.take i5.toNat ++ List.replicate (h0.length - i5.toNat) (Vintage.mk (0 : Int) (0 : Int) (0 : Int))).take i5.toNat).drop 0)], [.av (.v undef), .av (.v undef)])
    else
    none
    else
    none := by
  kernel_rfl
theorem lp38_0 {α : Type} (st : St) (K : Ex → St → Option α) : (cfg38 fu0).loop 2 25 (loopOf (codeAt (bodyOf Try.f25) [true, false, true, false])) st K = (cfg38 fu0).loopN 2 25 (loopOf (codeAt (bodyOf Try.f25) [true, false, true, false])) 1099511627776 st K := by kernel_rfl
theorem lp38_1 {α : Type} (st : St) (K : Ex → St → Option α) : (cfg38 fu0).loop 3 38 (loopOf (codeAt (bodyOf Try.f38) [true, true, true, false, true, false])) st K = (cfg38 fu0).loopN 3 38 (loopOf (codeAt (bodyOf Try.f38) [true, true, true, false, true, false])) 1099511627776 st K := by kernel_rfl
def Said38 : Prop := ∀ (s : List Vintage) , (decide (s.length ≤ 1000)) = true → (cfg38 fu0).runF 3 38 m38 r38 [.arr .vintage s, .av (.fn 39 [])] = some (([.arr .vintage (filterL s)], [.av (.v undef), .av (.v undef)]) : List MC × List MC)
theorem good38 (hΓ : AllGood Try.prog (cfg38 fu0).Γ) (h : Said38) : Good Try.prog 38 c38 := by
  refine (cfg38 fu0).good (d := 3) (r := r38) lawful lawfulO mixed hΓ (by kernel_rfl) fun ms hp => ?_
  have hp : (match (generalizing := false) ms with
    | [.arr .vintage s, .av (.fn 39 [])] => decide (s.length ≤ 1000)
    | _ => false) = true := hp
  split at hp
  · exact h _ hp
  · simp at hp

end Go.Proofs.Ytbnmmfjdbdbldaa

/-
  What is deleted of a row: the library's function computes what Pure says.
-/
namespace Go.Proofs.Ytbnmmfjdbdbldaa
open Go.Abs

section
variable {X : Type} {p : X → Bool}
/-- Behind j rounds, of which i kept theirs. -/
structure KeptAt (p : X → Bool) (s h : List X) (i j : Nat) : Prop where
  len : h.length = s.length
  pre : h.take i = (s.take j).filter p
  post : h.drop j = s.drop j
  cnt : i = ((s.take j).filter p).length
  le : i ≤ j

theorem KeptAt.get {s h : List X} {i j : Nat} (k : KeptAt p s h i j) {x : X} (hx : s[j]? = some x) : h[j]? = some x := by
  have h1 : (h.drop j)[0]? = some x := by rw [k.post, List.getElem?_drop]; simpa using hx
  rw [List.getElem?_drop] at h1; simpa using h1

theorem filter_take_succ {s : List X} {j : Nat} {x : X} (hx : s[j]? = some x) : (s.take (j + 1)).filter p = (s.take j).filter p ++ if p x then [x] else [] := by
  obtain ⟨hl, rfl⟩ := List.getElem?_eq_some_iff.1 hx
  rw [List.take_add_one, List.getElem?_eq_getElem hl, List.filter_append]
  simp [List.filter_cons]

theorem KeptAt.keep {s h : List X} {i j : Nat} (k : KeptAt p s h i j) {x : X} (hx : s[j]? = some x) (hp : p x = true) : KeptAt p s (h.set i x) (i + 1) (j + 1) := by
  have hj := (List.getElem?_eq_some_iff.1 hx).1
  have hlen := k.len
  have hle := k.le
  refine ⟨by rw [List.length_set, k.len], ?_, ?_, ?_, by omega⟩
  · rw [filter_take_succ hx, ← k.pre, if_pos hp, List.take_add_one, List.getElem?_set_self (by omega), List.take_set_of_le (Nat.le_refl _)]
    rfl
  · rw [List.drop_set_of_lt (by omega), ← List.drop_drop, k.post, List.drop_drop]
  · rw [filter_take_succ hx, if_pos hp, List.length_append, ← k.cnt]
    rfl

theorem KeptAt.drop {s h : List X} {i j : Nat} (k : KeptAt p s h i j) {x : X} (hx : s[j]? = some x) (hp : p x = false) : KeptAt p s h i (j + 1) := by
  have hle := k.le
  refine ⟨k.len, ?_, ?_, ?_, by omega⟩
  · rw [filter_take_succ hx, k.pre]; simp [hp]
  · rw [← List.drop_drop, k.post, List.drop_drop]
  · rw [filter_take_succ hx, k.cnt]; simp [hp]

theorem KeptAt.start {s : List X} {j : Nat} {x : X} (hx : s[j]? = some x) (hp : p x = false) (hb : ∀ k < j, ∀ y, s[k]? = some y → p y = true) : KeptAt p s s j (j + 1) := by
  have hj := (List.getElem?_eq_some_iff.1 hx).1
  have hall : (s.take j).filter p = s.take j := List.filter_eq_self.2 fun y hy => by
    obtain ⟨k, hk⟩ := List.getElem?_of_mem hy
    have hkl := (List.getElem?_eq_some_iff.1 hk).1
    rw [List.length_take] at hkl
    rw [List.getElem?_take_of_lt (by omega)] at hk
    exact hb k (by omega) y hk
  refine ⟨rfl, ?_, rfl, ?_, by omega⟩
  · rw [filter_take_succ hx, hall]; simp [hp]
  · rw [filter_take_succ hx, hall]; simp [hp]; omega

theorem KeptAt.fin {s h : List X} {i : Nat} (k : KeptAt p s h i s.length) (y : X) : ((h.take i ++ List.replicate (h.length - i) y).take i).drop 0 = s.filter p := by
  have hle := k.le
  have hlen := k.len
  rw [List.drop_zero, List.take_left' (by rw [List.length_take]; omega), k.pre, List.take_length]
end

theorem walk_first {β X : Type} (p : X → Bool) (R : Nat → Ex × St) (F : β → Ex × St) : ∀ (l : List X) (a : β) (i : Nat),
    (∃ j x, l[j]? = some x ∧ p x = true ∧ (∀ k < j, ∀ y, l[k]? = some y → p y = false) ∧ walk (fun a i x => if p x then .inr (R i) else .inl a) F a i l = R (i + j)) ∨ ((∀ x ∈ l, p x = false) ∧ walk (fun a i x => if p x then .inr (R i) else .inl a) F a i l = F a)
  | [], a, i => .inr ⟨by simp, rfl⟩
  | x :: l, a, i => by
    by_cases hx : p x = true
    · exact .inl ⟨0, x, rfl, hx, fun k hk => by omega, by rw [walk]; simp [hx]⟩
    · have e : ∀ G, walk (fun (a : β) i x => if p x then .inr (R i) else .inl a) F a i (x :: l) = G ↔ walk (fun a i x => if p x then .inr (R i) else .inl a) F a (i + 1) l = G := fun G => by rw [walk]; simp [hx]
      rcases walk_first p R F l a (i + 1) with ⟨j, y, h1, h2, hb, h3⟩ | ⟨h1, h2⟩
      · refine .inl ⟨j + 1, y, by simpa using h1, h2, fun k hk z hz => ?_, (e _).2 ?_⟩
        · cases k with
          | zero => simp at hz; subst hz; simpa using hx
          | succ k => exact hb k (by omega) z (by simpa using hz)
        · rw [h3]; congr 1; omega
      · exact .inr ⟨fun y hy => by rcases List.mem_cons.1 hy with rfl | hy; simpa using hx; exact h1 y hy, (e _).2 h2⟩

theorem said38 : Said38 := by
  intro s hp
  have h1 : s.length ≤ 1000 := of_decide_eq_true hp
  rw [e38, lp38_0]
  let q : Vintage → Bool := fun x => !isLeft x
  have hq : ∀ x : Vintage, (x.Left == 0) = q x := fun x => by simp [q, isLeft, beq_dec]
  refine (Cfg.loop_walk (cfg38 fu0) 2 25 _ s (fun (_ : Unit) i => S38_0 (s.length : Nat) (i : Nat) s) (fun a i x => if q x then .inr (.ret, S38_0a (i : Nat) (s.length : Nat) s) else .inl a) (fun _ => (.exit 0, S38_0b (s.length : Nat) (s.length : Nat) s))
    (fun _ _ => True) ?_ ?_ _ _ 0 () trivial (by omega) (by omega)).trans ?_
  · intro a i x _ hx K1 K2
    refine ⟨fun _ _ => trivial, ?_⟩
    rw [r38_0]
    simp only [lt_len hx, nn, cond_true, elt_at hx, hq]
    rw [succ_i (by omega) hx]
    cases q x <;> rfl
  · intro a _ K1 K2
    rw [r38_0]
    simp only [end_len, cond_false]
  · rw [List.drop_zero]
    rcases walk_first q (fun i => (.ret, S38_0a (i : Nat) (s.length : Nat) s)) (fun _ => (.exit 0, S38_0b (s.length : Nat) (s.length : Nat) s)) s () 0 with ⟨j, x, hx, hk, hb, k2⟩ | ⟨k1, k2⟩
    · rw [k2]
      have hjl := (List.getElem?_eq_some_iff.1 hx).1
      simp only [Nat.zero_add]
      rw [c38_0a]
      have c1 : ((j : Int) == (-1 : Int)) = false := by rw [beq_eq_false_iff_ne]; omega
      simp only [c1, cond_false]
      rw [lp38_1, succ_i (by omega) hx]
      have start : KeptAt isLeft s s j (j + 1) := KeptAt.start hx (by simpa [q] using hk) fun k hk' y hy => by simpa [q] using hb k hk' y hy
      obtain ⟨⟨i', h'⟩, inv, e⟩ := Cfg.loop_ex (cfg38 fu0) 3 38 (loopOf (codeAt (bodyOf Try.f38) [true, true, true, false, true, false])) s (fun (a : Nat × List Vintage) j => S38_1 (a.1 : Nat) (j : Nat) a.2) (fun a j => KeptAt isLeft s a.2 a.1 j) (.exit 0) (fun a => S38_1a (a.1 : Nat) (s.length : Nat) a.2)
        (fun a j x hi hx => by
          have hj := (List.getElem?_eq_some_iff.1 hx).1
          have hlen := hi.len
          have hle := hi.le
          have hg := hi.get hx
          obtain ⟨w, hw⟩ : ∃ w, a.2[a.1]? = some w := ⟨a.2[a.1]'(by omega), List.getElem?_eq_getElem (by omega)⟩
          by_cases hl : isLeft x = true
          · refine ⟨(a.1 + 1, a.2.set a.1 x), hi.keep hx hl, fun K1 K2 => ?_⟩
            rw [r38_1]
            have d1 : decide ((j : Int) < ((a.2.length : Nat) : Int)) = true := decide_eq_true (by omega)
            have d2 : (x.Left == 0) = false := by rw [hq]; simp [q, hl]
            simp only [d1, nn, cond_true, elt_at hg, elt_at hw, d2, Bool.not_false]
            rw [succ_i (by omega) hx, succ_i (by omega) hw]
            have : setE a.2 (a.1 : Int).toNat (⟨x.Origin, x.Expiry, x.Left⟩ : Vintage) = a.2.set a.1 x := by rw [Int.toNat_natCast]; rfl
            rw [this]
          · simp only [Bool.not_eq_true] at hl
            refine ⟨a, hi.drop hx hl, fun K1 K2 => ?_⟩
            rw [r38_1]
            have d1 : decide ((j : Int) < ((a.2.length : Nat) : Int)) = true := decide_eq_true (by omega)
            have d2 : (x.Left == 0) = true := by rw [hq]; simp [q, hl]
            simp only [d1, nn, cond_true, elt_at hg, d2, Bool.not_true, cond_false]
            rw [succ_i (by omega) hx])
        (fun a hi K1 K2 => by
          rw [r38_1]
          have d1 : decide (((s.length : Nat) : Int) < ((a.2.length : Nat) : Int)) = false := decide_eq_false (by have := hi.len; omega)
          simp only [d1, cond_false])
        ((cfg38 fu0).cont 3 38 (bodyOf Try.f38) [true, true, true, false, true, false] ((cfg38 fu0).finK Try.f38 m38 r38)) 1099511627776 (j + 1) (j, s) start (by omega) (by omega)
      refine e.trans ?_
      rw [c38_1a]
      have hlen : h'.length = s.length := inv.len
      have hle : i' ≤ s.length := inv.le
      have hlen2 : (h'.take i' ++ List.replicate (h'.length - i') (⟨0, 0, 0⟩ : Vintage)).length = s.length := by
        rw [List.length_append, List.length_take, List.length_replicate]; omega
      have d1 : (decide ((0 : Int) ≤ (i' : Int)) && decide ((i' : Int) ≤ ((h'.length : Nat) : Int))) = true := by simp; omega
      simp only [Int.toNat_natCast, d1, cond_true]
      have d2 : (decide ((0 : Int) ≤ (i' : Int)) && decide ((i' : Int) ≤ (((h'.take i' ++ List.replicate (h'.length - i') (⟨0, 0, 0⟩ : Vintage)).length : Nat) : Int))) = true := by rw [hlen2]; simp; omega
      rw [d2]
      simp only [cond_true]
      rw [inv.fin]
      rfl
    · rw [k2]
      simp only
      rw [c38_0b]
      have : filterL s = s := List.filter_eq_self.2 fun x hx => by simpa [q] using k1 x hx
      rw [this]

end Go.Proofs.Ytbnmmfjdbdbldaa
