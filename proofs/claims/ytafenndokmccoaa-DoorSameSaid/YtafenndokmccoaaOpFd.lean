/- The layer 'op': of which kind an operation's field is. -/
import Derived.Test.YtafenndokmccoaaKit
import Derived.Test.YtafenndokmccoaaOpB
namespace Go.Proofs.Ytafenndokmccoaa
open Go.RowKit
set_option linter.unusedVariables false
set_option linter.unusedSimpArgs false

/-- of which kind an operation's field is -/
def fieldK (k : Int) : Int := if k = 5 ∨ k = 6 ∨ k = 7 then 1 else 0
def fieldB (k : Int) : Bool := decide (2 ≤ k ∧ k ≤ 7)
set_option maxRecDepth 100000 in
set_option maxHeartbeats 3200000 in
theorem field_calls (o : OpN) (w : World) : Calls Try.prog 98 #[opVal o] w fun e w' => e = .returned (.tuple #[.int .i64 (fieldK o.k), .bool (fieldB o.k)]) ∧ Below w.heap.size w w' := by
  unfold opVal
  by_cases h : 2 ≤ o.k ∧ o.k ≤ 7
  · obtain ⟨k, a, b, c, f, s, x, y⟩ := o
    simp only at h ⊢
    obtain rfl | rfl | rfl | rfl | rfl | rfl : k = 2 ∨ k = 3 ∨ k = 4 ∨ k = 5 ∨ k = 6 ∨ k = 7 := by omega
    all_goals
      clear h
      go_enter Try.func98, Try.ntmps98
      go_wp2
      go_ret2
      exact ⟨rfl, by (repeat (first | exact Below.refl _ _ | (with_reducible assumption) | refine Below.drew ?_ | refine Below.drewN' ?_ _ | refine Below.alloc ?_ (by first | omega | (simp; done) | (simp; omega)) _ | refine Below.setCell ?_ (by first | omega | (simp; done) | (simp; omega)) _ | refine Below.then ?_ hb9 (by first | omega | (simp; done) | (simp; omega)) | refine Below.then ?_ hb8 (by first | omega | (simp; done) | (simp; omega)) | refine Below.then ?_ hb7 (by first | omega | (simp; done) | (simp; omega)) | refine Below.then ?_ hb6 (by first | omega | (simp; done) | (simp; omega)) | refine Below.then ?_ hb5 (by first | omega | (simp; done) | (simp; omega)) | refine Below.then ?_ hb4 (by first | omega | (simp; done) | (simp; omega)) | refine Below.then ?_ hb3 (by first | omega | (simp; done) | (simp; omega)) | refine Below.then ?_ hb2 (by first | omega | (simp; done) | (simp; omega)) | refine Below.then ?_ hb1 (by first | omega | (simp; done) | (simp; omega))))⟩
  · have e1 : fieldK o.k = 0 := by unfold fieldK; rw [if_neg (by omega)]
    have e2 : fieldB o.k = false := by unfold fieldB; simpa using h
    rw [e1, e2]
    have c2 : (o.k == 2) = false := by rw [beq_eq_false_iff_ne]; omega
    have c3 : (o.k == 3) = false := by rw [beq_eq_false_iff_ne]; omega
    have c4 : (o.k == 4) = false := by rw [beq_eq_false_iff_ne]; omega
    have c5 : (o.k == 5) = false := by rw [beq_eq_false_iff_ne]; omega
    have c6 : (o.k == 6) = false := by rw [beq_eq_false_iff_ne]; omega
    have c7 : (o.k == 7) = false := by rw [beq_eq_false_iff_ne]; omega
    clear e1 e2 h
    go_enter Try.func98, Try.ntmps98
    go_wp2
    go_ret2
    exact ⟨rfl, by (repeat (first | exact Below.refl _ _ | (with_reducible assumption) | refine Below.drew ?_ | refine Below.drewN' ?_ _ | refine Below.alloc ?_ (by first | omega | (simp; done) | (simp; omega)) _ | refine Below.setCell ?_ (by first | omega | (simp; done) | (simp; omega)) _ | refine Below.then ?_ hb9 (by first | omega | (simp; done) | (simp; omega)) | refine Below.then ?_ hb8 (by first | omega | (simp; done) | (simp; omega)) | refine Below.then ?_ hb7 (by first | omega | (simp; done) | (simp; omega)) | refine Below.then ?_ hb6 (by first | omega | (simp; done) | (simp; omega)) | refine Below.then ?_ hb5 (by first | omega | (simp; done) | (simp; omega)) | refine Below.then ?_ hb4 (by first | omega | (simp; done) | (simp; omega)) | refine Below.then ?_ hb3 (by first | omega | (simp; done) | (simp; omega)) | refine Below.then ?_ hb2 (by first | omega | (simp; done) | (simp; omega)) | refine Below.then ?_ hb1 (by first | omega | (simp; done) | (simp; omega))))⟩

end Go.Proofs.Ytafenndokmccoaa
