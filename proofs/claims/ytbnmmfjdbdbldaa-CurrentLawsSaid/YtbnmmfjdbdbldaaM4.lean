/-
  CurrentLaws returns true at every input, and its arguments read behind the call as they read before; no condition. Part 4 of 5.
-/
import Derived.Test.YtbnmmfjdbdbldaaM3

/-
  Functions, gone through in pieces.
-/
namespace Go.Proofs.Ytbnmmfjdbdbldaa
open Go.Abs

-- scutage/scutagelaw15.wakes
noncomputable def cfg8 (fu : Nat → Nat → Nat) : Cfg where
  P := Try.prog
  Γ := lookC [(10, c10), (7, c7)]
  ann := fun g => bif Nat.beq g 8 then ⟨fu 8, fun k => []⟩ else ⟨fu g, fun _ => []⟩
  inl := []
theorem e8 (fu : Nat → Nat → Nat) : (cfg8 fu).runF 3 8 m8 r8 [] =
    bif (wfL ([] : List Vintage)) then
    bif (decide (taxE ([] : List Vintage) (100 : Int) (0 : Int) (0 : Int) (0 : Int) (3 : Int) (5 : Int) (250000 : Int) = 0)) then
    bif ((taxR ([] : List Vintage) (100 : Int) (0 : Int) (0 : Int) (0 : Int) (3 : Int) (5 : Int) (250000 : Int)).Tax == (25 : Int)) then
    some ([.av (.v (.bool ((taxR ([] : List Vintage) (100 : Int) (0 : Int) (0 : Int) (0 : Int) (3 : Int) (5 : Int) (250000 : Int)).Taxable == (100 : Int))))], [])
    else
    some ([.av (.v (.bool false))], [])
    else
    bif ((taxE ([] : List Vintage) (100 : Int) (0 : Int) (0 : Int) (0 : Int) (3 : Int) (5 : Int) (250000 : Int)) == (0 : Int)) then
    some ([.av (.v (.bool false))], [])
    else
    some ([.av (.v (.bool false))], [])
    else
    none := by
  kernel_rfl
def Said8 : Prop := true = true → (cfg8 fu0).runF 3 8 m8 r8 [] = some (([.av (.v (.bool true))], []) : List MC × List MC)
theorem good8 (hΓ : AllGood Try.prog (cfg8 fu0).Γ) (h : Said8) : Good Try.prog 8 c8 := by
  refine (cfg8 fu0).good (d := 3) (r := r8) lawful lawfulO mixed hΓ (by kernel_rfl) fun ms hp => ?_
  have hp : (match (generalizing := false) ms with
    | [] => true
    | _ => false) = true := hp
  split at hp
  · exact h  hp
  · simp at hp

-- scutage/scutagelaw15.CurrentLaws
noncomputable def cfg3 (fu : Nat → Nat → Nat) : Cfg where
  P := Try.prog
  Γ := lookC [(5, c5), (4, c4), (6, c6), (7, c7), (9, c9), (8, c8)]
  ann := fun g => bif Nat.beq g 3 then ⟨fu 3, fun k => []⟩ else ⟨fu g, fun _ => []⟩
  inl := []
theorem e3 (fu : Nat → Nat → Nat) (l : List Int) (book : Int) (perm : Int) (moved : Int) (cap : Int) (life : Int) (year : Int) (r : Int) : (cfg3 fu).runF 3 3 m3 r3 [.av (.imm .int l), .av (.v (.int .i64 book)), .av (.v (.int .i64 perm)), .av (.v (.int .i64 moved)), .av (.v (.int .i64 cap)), .av (.v (.int .i64 life)), .av (.v (.int .i64 year)), .av (.v (.int .i64 r))] =
    bif (allI64 l) then
    bif (wfL (lossesR l)) then
    bif (ofL (lossesR l)) then
    bif (wfL (ofP (lossesR l))) then
    bif (decide (taxE (ofP (lossesR l)) (IntKind.i64.wrap ((within book (20001 : Int)) - (10000 : Int))) (IntKind.i64.wrap ((within perm (2001 : Int)) - (1000 : Int))) (IntKind.i64.wrap ((within moved (2001 : Int)) - (1000 : Int))) (within cap (1000001 : Int)) (within life (5 : Int)) (within year (9 : Int)) (within r (1000001 : Int)) = 0)) then
    bif (!((taxR (ofP (lossesR l)) (IntKind.i64.wrap ((within book (20001 : Int)) - (10000 : Int))) (IntKind.i64.wrap ((within perm (2001 : Int)) - (1000 : Int))) (IntKind.i64.wrap ((within moved (2001 : Int)) - (1000 : Int))) (within cap (1000001 : Int)) (within life (5 : Int)) (within year (9 : Int)) (within r (1000001 : Int))).Income == (IntKind.i64.wrap ((IntKind.i64.wrap ((IntKind.i64.wrap ((within book (20001 : Int)) - (10000 : Int))) + (IntKind.i64.wrap ((within perm (2001 : Int)) - (1000 : Int))))) - (IntKind.i64.wrap ((within moved (2001 : Int)) - (1000 : Int))))))) then
    some ([.av (.v (.bool false))], [.av (.v undef), .av (.v undef), .av (.v undef), .av (.v undef), .av (.v undef), .av (.v undef), .av (.v undef), .av (.v undef)])
    else
    bif (wfL (ofP (lossesR l))) then
    bif (wfL (taxL (ofP (lossesR l)) (IntKind.i64.wrap ((within book (20001 : Int)) - (10000 : Int))) (IntKind.i64.wrap ((within perm (2001 : Int)) - (1000 : Int))) (IntKind.i64.wrap ((within moved (2001 : Int)) - (1000 : Int))) (within cap (1000001 : Int)) (within life (5 : Int)) (within year (9 : Int)) (within r (1000001 : Int)))) then
    bif (!((IntKind.i64.wrap ((left (ofP (lossesR l))) + (taxR (ofP (lossesR l)) (IntKind.i64.wrap ((within book (20001 : Int)) - (10000 : Int))) (IntKind.i64.wrap ((within perm (2001 : Int)) - (1000 : Int))) (IntKind.i64.wrap ((within moved (2001 : Int)) - (1000 : Int))) (within cap (1000001 : Int)) (within life (5 : Int)) (within year (9 : Int)) (within r (1000001 : Int))).New)) == (IntKind.i64.wrap ((IntKind.i64.wrap ((left (taxL (ofP (lossesR l)) (IntKind.i64.wrap ((within book (20001 : Int)) - (10000 : Int))) (IntKind.i64.wrap ((within perm (2001 : Int)) - (1000 : Int))) (IntKind.i64.wrap ((within moved (2001 : Int)) - (1000 : Int))) (within cap (1000001 : Int)) (within life (5 : Int)) (within year (9 : Int)) (within r (1000001 : Int)))) + (taxR (ofP (lossesR l)) (IntKind.i64.wrap ((within book (20001 : Int)) - (10000 : Int))) (IntKind.i64.wrap ((within perm (2001 : Int)) - (1000 : Int))) (IntKind.i64.wrap ((within moved (2001 : Int)) - (1000 : Int))) (within cap (1000001 : Int)) (within life (5 : Int)) (within year (9 : Int)) (within r (1000001 : Int))).Used)) + (taxR (ofP (lossesR l)) (IntKind.i64.wrap ((within book (20001 : Int)) - (10000 : Int))) (IntKind.i64.wrap ((within perm (2001 : Int)) - (1000 : Int))) (IntKind.i64.wrap ((within moved (2001 : Int)) - (1000 : Int))) (within cap (1000001 : Int)) (within life (5 : Int)) (within year (9 : Int)) (within r (1000001 : Int))).Expired)))) then
    some ([.av (.v (.bool false))], [.av (.v undef), .av (.v undef), .av (.v undef), .av (.v undef), .av (.v undef), .av (.v undef), .av (.v undef), .av (.v undef)])
    else
    bif (decide ((taxR (ofP (lossesR l)) (IntKind.i64.wrap ((within book (20001 : Int)) - (10000 : Int))) (IntKind.i64.wrap ((within perm (2001 : Int)) - (1000 : Int))) (IntKind.i64.wrap ((within moved (2001 : Int)) - (1000 : Int))) (within cap (1000001 : Int)) (within life (5 : Int)) (within year (9 : Int)) (within r (1000001 : Int))).Taxable < (0 : Int))) then
    some ([.av (.v (.bool false))], [.av (.v undef), .av (.v undef), .av (.v undef), .av (.v undef), .av (.v undef), .av (.v undef), .av (.v undef), .av (.v undef)])
    else
    bif (decide ((taxR (ofP (lossesR l)) (IntKind.i64.wrap ((within book (20001 : Int)) - (10000 : Int))) (IntKind.i64.wrap ((within perm (2001 : Int)) - (1000 : Int))) (IntKind.i64.wrap ((within moved (2001 : Int)) - (1000 : Int))) (within cap (1000001 : Int)) (within life (5 : Int)) (within year (9 : Int)) (within r (1000001 : Int))).Tax < (0 : Int))) then
    some ([.av (.v (.bool false))], [.av (.v undef), .av (.v undef), .av (.v undef), .av (.v undef), .av (.v undef), .av (.v undef), .av (.v undef), .av (.v undef)])
    else
    bif (decide ((taxR (ofP (lossesR l)) (IntKind.i64.wrap ((within book (20001 : Int)) - (10000 : Int))) (IntKind.i64.wrap ((within perm (2001 : Int)) - (1000 : Int))) (IntKind.i64.wrap ((within moved (2001 : Int)) - (1000 : Int))) (within cap (1000001 : Int)) (within life (5 : Int)) (within year (9 : Int)) (within r (1000001 : Int))).Tax > (taxR (ofP (lossesR l)) (IntKind.i64.wrap ((within book (20001 : Int)) - (10000 : Int))) (IntKind.i64.wrap ((within perm (2001 : Int)) - (1000 : Int))) (IntKind.i64.wrap ((within moved (2001 : Int)) - (1000 : Int))) (within cap (1000001 : Int)) (within life (5 : Int)) (within year (9 : Int)) (within r (1000001 : Int))).Taxable)) then
    some ([.av (.v (.bool false))], [.av (.v undef), .av (.v undef), .av (.v undef), .av (.v undef), .av (.v undef), .av (.v undef), .av (.v undef), .av (.v undef)])
    else
    bif (decide ((taxR (ofP (lossesR l)) (IntKind.i64.wrap ((within book (20001 : Int)) - (10000 : Int))) (IntKind.i64.wrap ((within perm (2001 : Int)) - (1000 : Int))) (IntKind.i64.wrap ((within moved (2001 : Int)) - (1000 : Int))) (within cap (1000001 : Int)) (within life (5 : Int)) (within year (9 : Int)) (within r (1000001 : Int))).Used < (0 : Int))) then
    some ([.av (.v (.bool false))], [.av (.v undef), .av (.v undef), .av (.v undef), .av (.v undef), .av (.v undef), .av (.v undef), .av (.v undef), .av (.v undef)])
    else
    bif (decide ((taxR (ofP (lossesR l)) (IntKind.i64.wrap ((within book (20001 : Int)) - (10000 : Int))) (IntKind.i64.wrap ((within perm (2001 : Int)) - (1000 : Int))) (IntKind.i64.wrap ((within moved (2001 : Int)) - (1000 : Int))) (within cap (1000001 : Int)) (within life (5 : Int)) (within year (9 : Int)) (within r (1000001 : Int))).New < (0 : Int))) then
    some ([.av (.v (.bool false))], [.av (.v undef), .av (.v undef), .av (.v undef), .av (.v undef), .av (.v undef), .av (.v undef), .av (.v undef), .av (.v undef)])
    else
    bif (decide ((taxR (ofP (lossesR l)) (IntKind.i64.wrap ((within book (20001 : Int)) - (10000 : Int))) (IntKind.i64.wrap ((within perm (2001 : Int)) - (1000 : Int))) (IntKind.i64.wrap ((within moved (2001 : Int)) - (1000 : Int))) (within cap (1000001 : Int)) (within life (5 : Int)) (within year (9 : Int)) (within r (1000001 : Int))).Expired < (0 : Int))) then
    some ([.av (.v (.bool false))], [.av (.v undef), .av (.v undef), .av (.v undef), .av (.v undef), .av (.v undef), .av (.v undef), .av (.v undef), .av (.v undef)])
    else
    bif (decide ((taxR (ofP (lossesR l)) (IntKind.i64.wrap ((within book (20001 : Int)) - (10000 : Int))) (IntKind.i64.wrap ((within perm (2001 : Int)) - (1000 : Int))) (IntKind.i64.wrap ((within moved (2001 : Int)) - (1000 : Int))) (within cap (1000001 : Int)) (within life (5 : Int)) (within year (9 : Int)) (within r (1000001 : Int))).Income > (0 : Int))) then
    bif (!((taxR (ofP (lossesR l)) (IntKind.i64.wrap ((within book (20001 : Int)) - (10000 : Int))) (IntKind.i64.wrap ((within perm (2001 : Int)) - (1000 : Int))) (IntKind.i64.wrap ((within moved (2001 : Int)) - (1000 : Int))) (within cap (1000001 : Int)) (within life (5 : Int)) (within year (9 : Int)) (within r (1000001 : Int))).Taxable == (IntKind.i64.wrap ((taxR (ofP (lossesR l)) (IntKind.i64.wrap ((within book (20001 : Int)) - (10000 : Int))) (IntKind.i64.wrap ((within perm (2001 : Int)) - (1000 : Int))) (IntKind.i64.wrap ((within moved (2001 : Int)) - (1000 : Int))) (within cap (1000001 : Int)) (within life (5 : Int)) (within year (9 : Int)) (within r (1000001 : Int))).Income - (taxR (ofP (lossesR l)) (IntKind.i64.wrap ((within book (20001 : Int)) - (10000 : Int))) (IntKind.i64.wrap ((within perm (2001 : Int)) - (1000 : Int))) (IntKind.i64.wrap ((within moved (2001 : Int)) - (1000 : Int))) (within cap (1000001 : Int)) (within life (5 : Int)) (within year (9 : Int)) (within r (1000001 : Int))).Used)))) then
    some ([.av (.v (.bool false))], [.av (.v undef), .av (.v undef), .av (.v undef), .av (.v undef), .av (.v undef), .av (.v undef), .av (.v undef), .av (.v undef)])
    else
    bif (!((taxR (ofP (lossesR l)) (IntKind.i64.wrap ((within book (20001 : Int)) - (10000 : Int))) (IntKind.i64.wrap ((within perm (2001 : Int)) - (1000 : Int))) (IntKind.i64.wrap ((within moved (2001 : Int)) - (1000 : Int))) (within cap (1000001 : Int)) (within life (5 : Int)) (within year (9 : Int)) (within r (1000001 : Int))).New == (0 : Int))) then
    some ([.av (.v (.bool false))], [.av (.v undef), .av (.v undef), .av (.v undef), .av (.v undef), .av (.v undef), .av (.v undef), .av (.v undef), .av (.v undef)])
    else
    bif (decide ((IntKind.i64.wrap ((taxR (ofP (lossesR l)) (IntKind.i64.wrap ((within book (20001 : Int)) - (10000 : Int))) (IntKind.i64.wrap ((within perm (2001 : Int)) - (1000 : Int))) (IntKind.i64.wrap ((within moved (2001 : Int)) - (1000 : Int))) (within cap (1000001 : Int)) (within life (5 : Int)) (within year (9 : Int)) (within r (1000001 : Int))).Used * (1000000 : Int))) > (IntKind.i64.wrap ((taxR (ofP (lossesR l)) (IntKind.i64.wrap ((within book (20001 : Int)) - (10000 : Int))) (IntKind.i64.wrap ((within perm (2001 : Int)) - (1000 : Int))) (IntKind.i64.wrap ((within moved (2001 : Int)) - (1000 : Int))) (within cap (1000001 : Int)) (within life (5 : Int)) (within year (9 : Int)) (within r (1000001 : Int))).Income * (within cap (1000001 : Int)))))) then
    some ([.av (.v (.bool false))], [.av (.v undef), .av (.v undef), .av (.v undef), .av (.v undef), .av (.v undef), .av (.v undef), .av (.v undef), .av (.v undef)])
    else
    bif (decide ((taxR (ofP (lossesR l)) (IntKind.i64.wrap ((within book (20001 : Int)) - (10000 : Int))) (IntKind.i64.wrap ((within perm (2001 : Int)) - (1000 : Int))) (IntKind.i64.wrap ((within moved (2001 : Int)) - (1000 : Int))) (within cap (1000001 : Int)) (within life (5 : Int)) (within year (9 : Int)) (within r (1000001 : Int))).Income ≤ (0 : Int))) then
    bif (!((taxR (ofP (lossesR l)) (IntKind.i64.wrap ((within book (20001 : Int)) - (10000 : Int))) (IntKind.i64.wrap ((within perm (2001 : Int)) - (1000 : Int))) (IntKind.i64.wrap ((within moved (2001 : Int)) - (1000 : Int))) (within cap (1000001 : Int)) (within life (5 : Int)) (within year (9 : Int)) (within r (1000001 : Int))).Taxable == (0 : Int))) then
    some ([.av (.v (.bool false))], [.av (.v undef), .av (.v undef), .av (.v undef), .av (.v undef), .av (.v undef), .av (.v undef), .av (.v undef), .av (.v undef)])
    else
    bif (!((taxR (ofP (lossesR l)) (IntKind.i64.wrap ((within book (20001 : Int)) - (10000 : Int))) (IntKind.i64.wrap ((within perm (2001 : Int)) - (1000 : Int))) (IntKind.i64.wrap ((within moved (2001 : Int)) - (1000 : Int))) (within cap (1000001 : Int)) (within life (5 : Int)) (within year (9 : Int)) (within r (1000001 : Int))).Tax == (0 : Int))) then
    some ([.av (.v (.bool false))], [.av (.v undef), .av (.v undef), .av (.v undef), .av (.v undef), .av (.v undef), .av (.v undef), .av (.v undef), .av (.v undef)])
    else
    bif (!((taxR (ofP (lossesR l)) (IntKind.i64.wrap ((within book (20001 : Int)) - (10000 : Int))) (IntKind.i64.wrap ((within perm (2001 : Int)) - (1000 : Int))) (IntKind.i64.wrap ((within moved (2001 : Int)) - (1000 : Int))) (within cap (1000001 : Int)) (within life (5 : Int)) (within year (9 : Int)) (within r (1000001 : Int))).Used == (0 : Int))) then
    some ([.av (.v (.bool false))], [.av (.v undef), .av (.v undef), .av (.v undef), .av (.v undef), .av (.v undef), .av (.v undef), .av (.v undef), .av (.v undef)])
    else
    bif (!((taxR (ofP (lossesR l)) (IntKind.i64.wrap ((within book (20001 : Int)) - (10000 : Int))) (IntKind.i64.wrap ((within perm (2001 : Int)) - (1000 : Int))) (IntKind.i64.wrap ((within moved (2001 : Int)) - (1000 : Int))) (within cap (1000001 : Int)) (within life (5 : Int)) (within year (9 : Int)) (within r (1000001 : Int))).New == (IntKind.i64.wrap (0 - (taxR (ofP (lossesR l)) (IntKind.i64.wrap ((within book (20001 : Int)) - (10000 : Int))) (IntKind.i64.wrap ((within perm (2001 : Int)) - (1000 : Int))) (IntKind.i64.wrap ((within moved (2001 : Int)) - (1000 : Int))) (within cap (1000001 : Int)) (within life (5 : Int)) (within year (9 : Int)) (within r (1000001 : Int))).Income)))) then
    some ([.av (.v (.bool false))], [.av (.v undef), .av (.v undef), .av (.v undef), .av (.v undef), .av (.v undef), .av (.v undef), .av (.v undef), .av (.v undef)])
    else
    bif (!((((taxR (ofP (lossesR l)) (IntKind.i64.wrap ((within book (20001 : Int)) - (10000 : Int))) (IntKind.i64.wrap ((within perm (2001 : Int)) - (1000 : Int))) (IntKind.i64.wrap ((within moved (2001 : Int)) - (1000 : Int))) (within cap (1000001 : Int)) (within life (5 : Int)) (within year (9 : Int)) (within r (1000001 : Int))).Vector.length : Nat) : Int) == (0 : Int))) then
    some ([.av (.v (.bool false))], [.av (.v undef), .av (.v undef), .av (.v undef), .av (.v undef), .av (.v undef), .av (.v undef), .av (.v undef), .av (.v undef)])
    else
    bif (decide ((IntKind.i64.wrap ((2 : Int) * (IntKind.i64.wrap ((IntKind.i64.wrap ((taxR (ofP (lossesR l)) (IntKind.i64.wrap ((within book (20001 : Int)) - (10000 : Int))) (IntKind.i64.wrap ((within perm (2001 : Int)) - (1000 : Int))) (IntKind.i64.wrap ((within moved (2001 : Int)) - (1000 : Int))) (within cap (1000001 : Int)) (within life (5 : Int)) (within year (9 : Int)) (within r (1000001 : Int))).Taxable * (within r (1000001 : Int)))) - (IntKind.i64.wrap ((taxR (ofP (lossesR l)) (IntKind.i64.wrap ((within book (20001 : Int)) - (10000 : Int))) (IntKind.i64.wrap ((within perm (2001 : Int)) - (1000 : Int))) (IntKind.i64.wrap ((within moved (2001 : Int)) - (1000 : Int))) (within cap (1000001 : Int)) (within life (5 : Int)) (within year (9 : Int)) (within r (1000001 : Int))).Tax * (1000000 : Int))))))) ≥ (-1000000 : Int))) then
    bif (decide ((IntKind.i64.wrap ((2 : Int) * (IntKind.i64.wrap ((IntKind.i64.wrap ((taxR (ofP (lossesR l)) (IntKind.i64.wrap ((within book (20001 : Int)) - (10000 : Int))) (IntKind.i64.wrap ((within perm (2001 : Int)) - (1000 : Int))) (IntKind.i64.wrap ((within moved (2001 : Int)) - (1000 : Int))) (within cap (1000001 : Int)) (within life (5 : Int)) (within year (9 : Int)) (within r (1000001 : Int))).Taxable * (within r (1000001 : Int)))) - (IntKind.i64.wrap ((taxR (ofP (lossesR l)) (IntKind.i64.wrap ((within book (20001 : Int)) - (10000 : Int))) (IntKind.i64.wrap ((within perm (2001 : Int)) - (1000 : Int))) (IntKind.i64.wrap ((within moved (2001 : Int)) - (1000 : Int))) (within cap (1000001 : Int)) (within life (5 : Int)) (within year (9 : Int)) (within r (1000001 : Int))).Tax * (1000000 : Int))))))) ≤ (1000000 : Int))) then
    some ([.av (.v (.bool true))], [.av (.v undef), .av (.v undef), .av (.v undef), .av (.v undef), .av (.v undef), .av (.v undef), .av (.v undef), .av (.v undef)])
    else
    some ([.av (.v (.bool false))], [.av (.v undef), .av (.v undef), .av (.v undef), .av (.v undef), .av (.v undef), .av (.v undef), .av (.v undef), .av (.v undef)])
    else
    some ([.av (.v (.bool false))], [.av (.v undef), .av (.v undef), .av (.v undef), .av (.v undef), .av (.v undef), .av (.v undef), .av (.v undef), .av (.v undef)])
    else
    bif (decide ((IntKind.i64.wrap ((2 : Int) * (IntKind.i64.wrap ((IntKind.i64.wrap ((taxR (ofP (lossesR l)) (IntKind.i64.wrap ((within book (20001 : Int)) - (10000 : Int))) (IntKind.i64.wrap ((within perm (2001 : Int)) - (1000 : Int))) (IntKind.i64.wrap ((within moved (2001 : Int)) - (1000 : Int))) (within cap (1000001 : Int)) (within life (5 : Int)) (within year (9 : Int)) (within r (1000001 : Int))).Taxable * (within r (1000001 : Int)))) - (IntKind.i64.wrap ((taxR (ofP (lossesR l)) (IntKind.i64.wrap ((within book (20001 : Int)) - (10000 : Int))) (IntKind.i64.wrap ((within perm (2001 : Int)) - (1000 : Int))) (IntKind.i64.wrap ((within moved (2001 : Int)) - (1000 : Int))) (within cap (1000001 : Int)) (within life (5 : Int)) (within year (9 : Int)) (within r (1000001 : Int))).Tax * (1000000 : Int))))))) ≥ (-1000000 : Int))) then
    bif (decide ((IntKind.i64.wrap ((2 : Int) * (IntKind.i64.wrap ((IntKind.i64.wrap ((taxR (ofP (lossesR l)) (IntKind.i64.wrap ((within book (20001 : Int)) - (10000 : Int))) (IntKind.i64.wrap ((within perm (2001 : Int)) - (1000 : Int))) (IntKind.i64.wrap ((within moved (2001 : Int)) - (1000 : Int))) (within cap (1000001 : Int)) (within life (5 : Int)) (within year (9 : Int)) (within r (1000001 : Int))).Taxable * (within r (1000001 : Int)))) - (IntKind.i64.wrap ((taxR (ofP (lossesR l)) (IntKind.i64.wrap ((within book (20001 : Int)) - (10000 : Int))) (IntKind.i64.wrap ((within perm (2001 : Int)) - (1000 : Int))) (IntKind.i64.wrap ((within moved (2001 : Int)) - (1000 : Int))) (within cap (1000001 : Int)) (within life (5 : Int)) (within year (9 : Int)) (within r (1000001 : Int))).Tax * (1000000 : Int))))))) ≤ (1000000 : Int))) then
    some ([.av (.v (.bool true))], [.av (.v undef), .av (.v undef), .av (.v undef), .av (.v undef), .av (.v undef), .av (.v undef), .av (.v undef), .av (.v undef)])
    else
    some ([.av (.v (.bool false))], [.av (.v undef), .av (.v undef), .av (.v undef), .av (.v undef), .av (.v undef), .av (.v undef), .av (.v undef), .av (.v undef)])
    else
    some ([.av (.v (.bool false))], [.av (.v undef), .av (.v undef), .av (.v undef), .av (.v undef), .av (.v undef), .av (.v undef), .av (.v undef), .av (.v undef)])
    else
    bif (decide ((taxR (ofP (lossesR l)) (IntKind.i64.wrap ((within book (20001 : Int)) - (10000 : Int))) (IntKind.i64.wrap ((within perm (2001 : Int)) - (1000 : Int))) (IntKind.i64.wrap ((within moved (2001 : Int)) - (1000 : Int))) (within cap (1000001 : Int)) (within life (5 : Int)) (within year (9 : Int)) (within r (1000001 : Int))).Income ≤ (0 : Int))) then
    bif (!((taxR (ofP (lossesR l)) (IntKind.i64.wrap ((within book (20001 : Int)) - (10000 : Int))) (IntKind.i64.wrap ((within perm (2001 : Int)) - (1000 : Int))) (IntKind.i64.wrap ((within moved (2001 : Int)) - (1000 : Int))) (within cap (1000001 : Int)) (within life (5 : Int)) (within year (9 : Int)) (within r (1000001 : Int))).Taxable == (0 : Int))) then
    some ([.av (.v (.bool false))], [.av (.v undef), .av (.v undef), .av (.v undef), .av (.v undef), .av (.v undef), .av (.v undef), .av (.v undef), .av (.v undef)])
    else
    bif (!((taxR (ofP (lossesR l)) (IntKind.i64.wrap ((within book (20001 : Int)) - (10000 : Int))) (IntKind.i64.wrap ((within perm (2001 : Int)) - (1000 : Int))) (IntKind.i64.wrap ((within moved (2001 : Int)) - (1000 : Int))) (within cap (1000001 : Int)) (within life (5 : Int)) (within year (9 : Int)) (within r (1000001 : Int))).Tax == (0 : Int))) then
    some ([.av (.v (.bool false))], [.av (.v undef), .av (.v undef), .av (.v undef), .av (.v undef), .av (.v undef), .av (.v undef), .av (.v undef), .av (.v undef)])
    else
    bif (!((taxR (ofP (lossesR l)) (IntKind.i64.wrap ((within book (20001 : Int)) - (10000 : Int))) (IntKind.i64.wrap ((within perm (2001 : Int)) - (1000 : Int))) (IntKind.i64.wrap ((within moved (2001 : Int)) - (1000 : Int))) (within cap (1000001 : Int)) (within life (5 : Int)) (within year (9 : Int)) (within r (1000001 : Int))).Used == (0 : Int))) then
    some ([.av (.v (.bool false))], [.av (.v undef), .av (.v undef), .av (.v undef), .av (.v undef), .av (.v undef), .av (.v undef), .av (.v undef), .av (.v undef)])
    else
    bif (!((taxR (ofP (lossesR l)) (IntKind.i64.wrap ((within book (20001 : Int)) - (10000 : Int))) (IntKind.i64.wrap ((within perm (2001 : Int)) - (1000 : Int))) (IntKind.i64.wrap ((within moved (2001 : Int)) - (1000 : Int))) (within cap (1000001 : Int)) (within life (5 : Int)) (within year (9 : Int)) (within r (1000001 : Int))).New == (IntKind.i64.wrap (0 - (taxR (ofP (lossesR l)) (IntKind.i64.wrap ((within book (20001 : Int)) - (10000 : Int))) (IntKind.i64.wrap ((within perm (2001 : Int)) - (1000 : Int))) (IntKind.i64.wrap ((within moved (2001 : Int)) - (1000 : Int))) (within cap (1000001 : Int)) (within life (5 : Int)) (within year (9 : Int)) (within r (1000001 : Int))).Income)))) then
    some ([.av (.v (.bool false))], [.av (.v undef), .av (.v undef), .av (.v undef), .av (.v undef), .av (.v undef), .av (.v undef), .av (.v undef), .av (.v undef)])
    else
    bif (!((((taxR (ofP (lossesR l)) (IntKind.i64.wrap ((within book (20001 : Int)) - (10000 : Int))) (IntKind.i64.wrap ((within perm (2001 : Int)) - (1000 : Int))) (IntKind.i64.wrap ((within moved (2001 : Int)) - (1000 : Int))) (within cap (1000001 : Int)) (within life (5 : Int)) (within year (9 : Int)) (within r (1000001 : Int))).Vector.length : Nat) : Int) == (0 : Int))) then
    some ([.av (.v (.bool false))], [.av (.v undef), .av (.v undef), .av (.v undef), .av (.v undef), .av (.v undef), .av (.v undef), .av (.v undef), .av (.v undef)])
    else
    bif (decide ((IntKind.i64.wrap ((2 : Int) * (IntKind.i64.wrap ((IntKind.i64.wrap ((taxR (ofP (lossesR l)) (IntKind.i64.wrap ((within book (20001 : Int)) - (10000 : Int))) (IntKind.i64.wrap ((within perm (2001 : Int)) - (1000 : Int))) (IntKind.i64.wrap ((within moved (2001 : Int)) - (1000 : Int))) (within cap (1000001 : Int)) (within life (5 : Int)) (within year (9 : Int)) (within r (1000001 : Int))).Taxable * (within r (1000001 : Int)))) - (IntKind.i64.wrap ((taxR (ofP (lossesR l)) (IntKind.i64.wrap ((within book (20001 : Int)) - (10000 : Int))) (IntKind.i64.wrap ((within perm (2001 : Int)) - (1000 : Int))) (IntKind.i64.wrap ((within moved (2001 : Int)) - (1000 : Int))) (within cap (1000001 : Int)) (within life (5 : Int)) (within year (9 : Int)) (within r (1000001 : Int))).Tax * (1000000 : Int))))))) ≥ (-1000000 : Int))) then
    bif (decide ((IntKind.i64.wrap ((2 : Int) * (IntKind.i64.wrap ((IntKind.i64.wrap ((taxR (ofP (lossesR l)) (IntKind.i64.wrap ((within book (20001 : Int)) - (10000 : Int))) (IntKind.i64.wrap ((within perm (2001 : Int)) - (1000 : Int))) (IntKind.i64.wrap ((within moved (2001 : Int)) - (1000 : Int))) (within cap (1000001 : Int)) (within life (5 : Int)) (within year (9 : Int)) (within r (1000001 : Int))).Taxable * (within r (1000001 : Int)))) - (IntKind.i64.wrap ((taxR (ofP (lossesR l)) (IntKind.i64.wrap ((within book (20001 : Int)) - (10000 : Int))) (IntKind.i64.wrap ((within perm (2001 : Int)) - (1000 : Int))) (IntKind.i64.wrap ((within moved (2001 : Int)) - (1000 : Int))) (within cap (1000001 : Int)) (within life (5 : Int)) (within year (9 : Int)) (within r (1000001 : Int))).Tax * (1000000 : Int))))))) ≤ (1000000 : Int))) then
    some ([.av (.v (.bool true))], [.av (.v undef), .av (.v undef), .av (.v undef), .av (.v undef), .av (.v undef), .av (.v undef), .av (.v undef), .av (.v undef)])
    else
    some ([.av (.v (.bool false))], [.av (.v undef), .av (.v undef), .av (.v undef), .av (.v undef), .av (.v undef), .av (.v undef), .av (.v undef), .av (.v undef)])
    else
    some ([.av (.v (.bool false))], [.av (.v undef), .av (.v undef), .av (.v undef), .av (.v undef), .av (.v undef), .av (.v undef), .av (.v undef), .av (.v undef)])
    else
    bif (decide ((IntKind.i64.wrap ((2 : Int) * (IntKind.i64.wrap ((IntKind.i64.wrap ((taxR (ofP (lossesR l)) (IntKind.i64.wrap ((within book (20001 : Int)) - (10000 : Int))) (IntKind.i64.wrap ((within perm (2001 : Int)) - (1000 : Int))) (IntKind.i64.wrap ((within moved (2001 : Int)) - (1000 : Int))) (within cap (1000001 : Int)) (within life (5 : Int)) (within year (9 : Int)) (within r (1000001 : Int))).Taxable * (within r (1000001 : Int)))) - (IntKind.i64.wrap ((taxR (ofP (lossesR l)) (IntKind.i64.wrap ((within book (20001 : Int)) - (10000 : Int))) (IntKind.i64.wrap ((within perm (2001 : Int)) - (1000 : Int))) (IntKind.i64.wrap ((within moved (2001 : Int)) - (1000 : Int))) (within cap (1000001 : Int)) (within life (5 : Int)) (within year (9 : Int)) (within r (1000001 : Int))).Tax * (1000000 : Int))))))) ≥ (-1000000 : Int))) then
    bif (decide ((IntKind.i64.wrap ((2 : Int) * (IntKind.i64.wrap ((IntKind.i64.wrap ((taxR (ofP (lossesR l)) (IntKind.i64.wrap ((within book (20001 : Int)) - (10000 : Int))) (IntKind.i64.wrap ((within perm (2001 : Int)) - (1000 : Int))) (IntKind.i64.wrap ((within moved (2001 : Int)) - (1000 : Int))) (within cap (1000001 : Int)) (within life (5 : Int)) (within year (9 : Int)) (within r (1000001 : Int))).Taxable * (within r (1000001 : Int)))) - (IntKind.i64.wrap ((taxR (ofP (lossesR l)) (IntKind.i64.wrap ((within book (20001 : Int)) - (10000 : Int))) (IntKind.i64.wrap ((within perm (2001 : Int)) - (1000 : Int))) (IntKind.i64.wrap ((within moved (2001 : Int)) - (1000 : Int))) (within cap (1000001 : Int)) (within life (5 : Int)) (within year (9 : Int)) (within r (1000001 : Int))).Tax * (1000000 : Int))))))) ≤ (1000000 : Int))) then
    some ([.av (.v (.bool true))], [.av (.v undef), .av (.v undef), .av (.v undef), .av (.v undef), .av (.v undef), .av (.v undef), .av (.v undef), .av (.v undef)])
    else
    some ([.av (.v (.bool false))], [.av (.v undef), .av (.v undef), .av (.v undef), .av (.v undef), .av (.v undef), .av (.v undef), .av (.v undef), .av (.v undef)])
    else
    some ([.av (.v (.bool false))], [.av (.v undef), .av (.v undef), .av (.v undef), .av (.v undef), .av (.v undef), .av (.v undef), .av (.v undef), .av (.v undef)])
    else
    none
    else
    none
    else
    bif (!((taxE (ofP (lossesR l)) (IntKind.i64.wrap ((within book (20001 : Int)) - (10000 : Int))) (IntKind.i64.wrap ((within perm (2001 : Int)) - (1000 : Int))) (IntKind.i64.wrap ((within moved (2001 : Int)) - (1000 : Int))) (within cap (1000001 : Int)) (within life (5 : Int)) (within year (9 : Int)) (within r (1000001 : Int))) == (0 : Int))) then
    bif ((taxE (ofP (lossesR l)) (IntKind.i64.wrap ((within book (20001 : Int)) - (10000 : Int))) (IntKind.i64.wrap ((within perm (2001 : Int)) - (1000 : Int))) (IntKind.i64.wrap ((within moved (2001 : Int)) - (1000 : Int))) (within cap (1000001 : Int)) (within life (5 : Int)) (within year (9 : Int)) (within r (1000001 : Int))) == (5 : Int)) then
    some ([.av (.v (.bool true))], [.av (.v undef), .av (.v undef), .av (.v undef), .av (.v undef), .av (.v undef), .av (.v undef), .av (.v undef), .av (.v undef)])
    else
    bif ((taxE (ofP (lossesR l)) (IntKind.i64.wrap ((within book (20001 : Int)) - (10000 : Int))) (IntKind.i64.wrap ((within perm (2001 : Int)) - (1000 : Int))) (IntKind.i64.wrap ((within moved (2001 : Int)) - (1000 : Int))) (within cap (1000001 : Int)) (within life (5 : Int)) (within year (9 : Int)) (within r (1000001 : Int))) == (6 : Int)) then
    some ([.av (.v (.bool true))], [.av (.v undef), .av (.v undef), .av (.v undef), .av (.v undef), .av (.v undef), .av (.v undef), .av (.v undef), .av (.v undef)])
    else
    some ([.av (.v (.bool false))], [.av (.v undef), .av (.v undef), .av (.v undef), .av (.v undef), .av (.v undef), .av (.v undef), .av (.v undef), .av (.v undef)])
    else
    some ([.av (.v (.bool false))], [.av (.v undef), .av (.v undef), .av (.v undef), .av (.v undef), .av (.v undef), .av (.v undef), .av (.v undef), .av (.v undef)])
    else
    none
    else
    some ([.av (.v (.bool false))], [.av (.v undef), .av (.v undef), .av (.v undef), .av (.v undef), .av (.v undef), .av (.v undef), .av (.v undef), .av (.v undef)])
    else
    none
    else
    none := by
  kernel_rfl
def Said3 : Prop := ∀ (l : List Int) (book : Int) (perm : Int) (moved : Int) (cap : Int) (life : Int) (year : Int) (r : Int) , (allI64 l) = true → (cfg3 fu0).runF 3 3 m3 r3 [.av (.imm .int l), .av (.v (.int .i64 book)), .av (.v (.int .i64 perm)), .av (.v (.int .i64 moved)), .av (.v (.int .i64 cap)), .av (.v (.int .i64 life)), .av (.v (.int .i64 year)), .av (.v (.int .i64 r))] = some (([.av (.v (.bool true))], [.av (.v undef), .av (.v undef), .av (.v undef), .av (.v undef), .av (.v undef), .av (.v undef), .av (.v undef), .av (.v undef)]) : List MC × List MC)
theorem good3 (hΓ : AllGood Try.prog (cfg3 fu0).Γ) (h : Said3) : Good Try.prog 3 c3 := by
  refine (cfg3 fu0).good (d := 3) (r := r3) lawful lawfulO mixed hΓ (by kernel_rfl) fun ms hp => ?_
  have hp : (match (generalizing := false) ms with
    | [.av (.imm .int l), .av (.v (.int .i64 book)), .av (.v (.int .i64 perm)), .av (.v (.int .i64 moved)), .av (.v (.int .i64 cap)), .av (.v (.int .i64 life)), .av (.v (.int .i64 year)), .av (.v (.int .i64 r))] => allI64 l
    | _ => false) = true := hp
  split at hp
  · exact h _ _ _ _ _ _ _ _ hp
  · simp at hp

end Go.Proofs.Ytbnmmfjdbdbldaa

/-
  CurrentLaws and the example of its chapter.
-/
namespace Go.Proofs.Ytbnmmfjdbdbldaa
open Go.Abs

theorem said8 : Said8 := by
  intro _
  rw [e8]
  kernel_rfl

theorem said3 : Said3 := by
  intro l book perm moved cap life year r hp
  have q1 := p_within book (n := 20001) (by omega)
  have q2 := p_within perm (n := 2001) (by omega)
  have q3 := p_within moved (n := 2001) (by omega)
  have q4 := p_within cap (n := 1000001) (by omega)
  have q5 := p_within life (n := 5) (by omega)
  have q6 := p_within year (n := 9) (by omega)
  have q7 := p_within r (n := 1000001) (by omega)
  obtain ⟨o1, o2⟩ := of_ok l
  have o3 := (lossesR_good l).1
  have hW := p_left_nonneg (p_wfL.1 o2).2.1
  have hW' := (p_wfL.1 o2).2.2.1
  rw [e3, IntWalk.i64_in (within book 20001 - 10000) (by omega), IntWalk.i64_in (within perm 2001 - 1000) (by omega), IntWalk.i64_in (within moved 2001 - 1000) (by omega)]
  generalize hBe : within book 20001 - 10000 = Bk
  generalize hPe : within perm 2001 - 1000 = Pm
  generalize hMe : within moved 2001 - 1000 = Mv
  generalize hCe : within cap 1000001 = c at q4 ⊢
  generalize hLe : within life 5 = lf at q5 ⊢
  generalize hYe : within year 9 = yr at q6 ⊢
  generalize hRe : within r 1000001 = rr at q7 ⊢
  generalize ofP (lossesR l) = W at o2 hW hW' ⊢
  obtain ⟨f1, f2⟩ := tax_facts o2 (B := Bk) (P := Pm) (M := Mv) (c := c) (life := lf) (year := yr) (r := rr) (by omega) (by omega) (by omega) (by omega) (by omega) (by omega) (by omega) rfl rfl rfl
  generalize taxE W Bk Pm Mv c lf yr rr = E at f1 f2 ⊢
  generalize taxR W Bk Pm Mv c lf yr rr = t at f2 ⊢
  generalize taxL W Bk Pm Mv c lf yr rr = L at f2 ⊢
  simp only [hp, o1, o2, o3, cond_true, beq_dec]
  rcases f1 with rfl | rfl | rfl
  · obtain ⟨g1, g2, g3, g4, g5, g6, g7, g8, g9, g10, g11, g12, g13, g14, g15, g16, g17⟩ := f2 rfl
    have hL := p_left_nonneg (p_wfL.1 g1).2.1
    have hL' := (p_wfL.1 g1).2.2.1
    have hm := mul_le (n := t.Taxable) (r := rr) (N := 12000) (R := 1000000) g4 g14 (by omega) (by omega)
    rw [IntWalk.i64_in (Bk + Pm) (by omega), IntWalk.i64_in (Bk + Pm - Mv) (by omega), IntWalk.i64_in (left W + t.New) (by omega), IntWalk.i64_in (left L + t.Used) (by omega), IntWalk.i64_in (left L + t.Used + t.Expired) (by omega),
      IntWalk.i64_in (t.Taxable * rr) (by omega), IntWalk.i64_in (t.Tax * 1000000) (by omega), IntWalk.i64_in (t.Taxable * rr - t.Tax * 1000000) (by omega), IntWalk.i64_in (2 * (t.Taxable * rr - t.Tax * 1000000)) (by omega)]
    have d1 : decide (2 * (t.Taxable * rr - t.Tax * 1000000) ≥ -1000000) = true := decide_eq_true (by omega)
    have d2 : decide (2 * (t.Taxable * rr - t.Tax * 1000000) ≤ 1000000) = true := decide_eq_true (by omega)
    simp only [g1, g2, g3, decide_true, Bool.not_true, cond_false, cond_true, d1, d2, show ¬ (t.Taxable < 0) by omega, show ¬ (t.Tax < 0) by omega, show ¬ (t.Tax > t.Taxable) by omega, show ¬ (t.Used < 0) by omega, show ¬ (t.New < 0) by omega, show ¬ (t.Expired < 0) by omega, decide_false]
    rw [← g2]
    by_cases hi : 0 < t.Income
    · obtain ⟨k1, k2, k3⟩ := g10 hi
      have hm2 := mul_le (n := t.Income) (r := c) (N := 24000) (R := 1000000) (by omega) (by omega) (by omega) (by omega)
      rw [IntWalk.i64_in (t.Income - t.Used) (by omega), IntWalk.i64_in (t.Used * 1000000) (by omega), IntWalk.i64_in (t.Income * c) (by omega)]
      simp only [show t.Income > 0 from hi, show ¬ (t.Income ≤ 0) by omega, ← k1, k2, show ¬ (t.Used * 1000000 > t.Income * c) by omega, decide_true, decide_false, cond_true, cond_false, Bool.not_true]
    · obtain ⟨k1, k2, k3, k4, k5⟩ := g11 (by omega)
      rw [IntWalk.i64_in (0 - t.Income) (by omega)]
      simp only [show ¬ (t.Income > 0) by omega, show t.Income ≤ 0 by omega, k1, k2, k3, k4, k5, show -t.Income = 0 - t.Income by omega, decide_true, decide_false, cond_true, cond_false, Bool.not_true, List.length_nil]
      rfl
  · simp
  · simp

end Go.Proofs.Ytbnmmfjdbdbldaa
