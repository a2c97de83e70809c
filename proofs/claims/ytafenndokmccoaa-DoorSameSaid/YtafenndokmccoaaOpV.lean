/- Operations as eight numbers, plainly: what each kind names, and which operations are bare. No program in sight. -/
import Derived.Lib.ItoaNum
namespace Go.Proofs.Ytafenndokmccoaa
set_option linter.unusedVariables false
set_option linter.unusedSimpArgs false

structure OpN where
  k : Int
  a : Int
  b : Int
  c : Int
  f : Int
  s : Int
  x : Int
  y : Int

namespace OpN
/-- a number by its part: A, B, C, Field, Shape, X, Y -/
def get (o : OpN) (n : Nat) : Int := if n = 0 then o.a else if n = 1 then o.b else if n = 2 then o.c else if n = 3 then o.f else if n = 4 then o.s else if n = 5 then o.x else o.y
def set (o : OpN) (n : Nat) (v : Int) : OpN :=
  if n = 0 then { o with a := v } else if n = 1 then { o with b := v } else if n = 2 then { o with c := v } else if n = 3 then { o with f := v } else if n = 4 then { o with s := v } else if n = 5 then { o with x := v } else { o with y := v }
/-- by its cell -/
def cell (o : OpN) (j : Nat) : Int := if j = 0 then o.k else o.get (j - 1)
def only (k : Int) : OpN := ⟨k, 0, 0, 0, 0, 0, 0, 0⟩
theorem set_k (o : OpN) (n : Nat) (v : Int) : (o.set n v).k = o.k := by unfold set; repeat' split
                                                                        all_goals rfl
theorem cell_set (o : OpN) (n : Nat) (hn : n ≤ 6) (v : Int) (j : Nat) (hj : j ≤ 7) : (o.set n v).cell j = if j = n + 1 then v else o.cell j := by
  obtain rfl | rfl | rfl | rfl | rfl | rfl | rfl : n = 0 ∨ n = 1 ∨ n = 2 ∨ n = 3 ∨ n = 4 ∨ n = 5 ∨ n = 6 := by omega
  all_goals
    obtain rfl | rfl | rfl | rfl | rfl | rfl | rfl | rfl : j = 0 ∨ j = 1 ∨ j = 2 ∨ j = 3 ∨ j = 4 ∨ j = 5 ∨ j = 6 ∨ j = 7 := by omega
    all_goals rfl
theorem cell_get (o : OpN) (n : Nat) : o.cell (n + 1) = o.get n := rfl
end OpN

/-- what a kind names -/
def opNames (k : Int) : List Nat :=
  if k = 1 then [0, 4] else if k = 2 then [0, 3, 1] else if k = 3 then [0, 3, 1] else if k = 4 then [0, 3, 1, 2] else if k = 5 then [0, 3] else if k = 6 then [0, 3, 5] else if k = 7 then [0, 3, 5, 6]
  else if k = 8 then [0, 1] else if k = 9 then [0, 1] else if k = 10 then [0] else []
/-- a kind's name -/
def opName (k : Int) : ByteArray :=
  if k = 1 then ⟨#[97, 108, 108, 111, 99]⟩ else if k = 2 then ⟨#[103, 101, 116]⟩ else if k = 3 then ⟨#[112, 117, 116]⟩ else if k = 4 then ⟨#[99, 97, 115]⟩ else if k = 5 then ⟨#[103, 101, 116, 105]⟩ else if k = 6 then ⟨#[112, 117, 116, 105]⟩
  else if k = 7 then ⟨#[99, 97, 115, 105]⟩ else if k = 8 then ⟨#[101, 113]⟩ else if k = 9 then ⟨#[109, 111, 118, 101]⟩ else if k = 10 then ⟨#[100, 114, 111, 112]⟩ else if k = 11 then ⟨#[99, 111, 108, 108, 101, 99, 116]⟩ else ⟨#[]⟩
def opIs (k : Int) : Bool := decide (1 ≤ k ∧ k ≤ 11)
theorem names_le (k : Int) : ∀ n ∈ opNames k, n ≤ 6 := by
  unfold opNames
  repeat' split
  all_goals simp
theorem kinds_of {k : Int} (h : opIs k = true) : k = 1 ∨ k = 2 ∨ k = 3 ∨ k = 4 ∨ k = 5 ∨ k = 6 ∨ k = 7 ∨ k = 8 ∨ k = 9 ∨ k = 10 ∨ k = 11 := by
  unfold opIs at h
  simp only [decide_eq_true_eq] at h
  omega

/-- an operation without what its kind names -/
def bareOf (o : OpN) : OpN := (opNames o.k).foldl (fun p n => p.set n 0) o
def zeroB (o : OpN) : Bool := decide (o.a = 0) && (decide (o.b = 0) && (decide (o.c = 0) && (decide (o.f = 0) && (decide (o.s = 0) && (decide (o.x = 0) && decide (o.y = 0))))))
/-- is its kind one, and what it does not name 0? -/
def bareB (o : OpN) : Bool := opIs o.k && zeroB (bareOf o)
theorem foldl_k (l : List Nat) : ∀ (o : OpN), (l.foldl (fun p n => p.set n 0) o).k = o.k := by
  induction l with
  | nil => intro o; rfl
  | cons n r ih => intro o; rw [List.foldl_cons, ih, OpN.set_k]
theorem bareOf_k (o : OpN) : (bareOf o).k = o.k := foldl_k _ _

end Go.Proofs.Ytafenndokmccoaa
