/- The reference of layer 'op': numbers by letters. -/
import Derived.Test.YtlohfcinffaagaaDoorOpB
import Derived.Test.YtlohfcinffaagaaDoorQOpA1
import Derived.Deep.RegionHeld3
import Derived.LoopTactic
namespace Go.Proofs.YtlohfcinffaagaaDoor
open Go.RowKit Go.Proofs.YtlohfcinffaagaaDoorW.PrintWords Go.Proofs.YtlohfcinffaagaaDoorQ.OpA
set_option linter.unusedVariables false
set_option linter.unusedSimpArgs false
attribute [local go_sem] Oper.semAt_some

def letterN (n : Nat) : UInt8 := if n = 0 then 65 else if n = 1 then 66 else if n = 2 then 67 else if n = 3 then 102 else if n = 4 then 115 else if n = 5 then 88 else 89
def namesB (k : Int) : ByteArray := ⟨((opNames k).map letterN).toArray⟩
theorem refNames_f (k : Int) : lapidaryref08_Names.f k = some (namesB k) := by
  cases hk : opIs k with
  | true => rcases kinds_of hk with rfl | rfl | rfl | rfl | rfl | rfl | rfl | rfl | rfl | rfl | rfl <;> rfl
  | false =>
    have b1 : k ≤ 0 ∨ 11 < k := by unfold opIs at hk; simp only [decide_eq_false_iff_not] at hk; omega
    have e1 : namesB k = ⟨#[]⟩ := by
      have e2 : opNames k = [] := by unfold opNames; repeat (rw [if_neg (by omega)])
      unfold namesB; rw [e2]; rfl
    rw [e1]
    unfold lapidaryref08_Names.f
    rcases b1 with b1 | b1
    · rw [if_pos (by omega)]
    · rw [if_neg (by omega), if_pos (by omega)]
theorem get_f (o : OpN) (n : Nat) (hn : n ≤ 6) : lapidaryref08_get.f o.k o.a o.b o.c o.f o.s o.x o.y ((letterN n).toNat : Int) = some (o.get n) := by
  obtain rfl | rfl | rfl | rfl | rfl | rfl | rfl : n = 0 ∨ n = 1 ∨ n = 2 ∨ n = 3 ∨ n = 4 ∨ n = 5 ∨ n = 6 := by omega
  all_goals rfl
theorem named_f (k : Int) (n : Nat) (hn : n ≤ 6) : lapidaryref08_named.f 6 (namesB k) ((letterN n).toNat : Int) = some ((opNames k).contains n) := by
  cases hk : opIs k with
  | true =>
    rcases kinds_of hk with rfl | rfl | rfl | rfl | rfl | rfl | rfl | rfl | rfl | rfl | rfl
    all_goals
      obtain rfl | rfl | rfl | rfl | rfl | rfl | rfl : n = 0 ∨ n = 1 ∨ n = 2 ∨ n = 3 ∨ n = 4 ∨ n = 5 ∨ n = 6 := by omega
      all_goals decide +kernel
  | false =>
    have b1 : k ≤ 0 ∨ 11 < k := by unfold opIs at hk; simp only [decide_eq_false_iff_not] at hk; omega
    have e2 : opNames k = [] := by unfold opNames; repeat (rw [if_neg (by omega)])
    unfold namesB
    rw [e2]
    rfl
theorem refNames_calls (k : Int) (w : World) : Calls Tryd.prog 31 #[.int .i64 k] w fun e w' => e = .returned (.string (namesB k)) ∧ Below w.heap.size w w' :=
  lapidaryref08_Names.calls k _ w (refNames_f k)
theorem named_calls (k : Int) (n : Nat) (hn : n ≤ 6) (w : World) : Calls Tryd.prog 39 #[.string (namesB k), .int .u8 (letterN n).toNat] w fun e w' => e = .returned (.bool ((opNames k).contains n)) ∧ Below w.heap.size w w' := by
  have h := lapidaryref08_named.calls 6 (namesB k) ((letterN n).toNat : Int) _ w (named_f k n hn)
  exact h.mono fun e w' ⟨h1, h2⟩ => ⟨h1, h2.below⟩
theorem get_calls (o : OpN) (n : Nat) (hn : n ≤ 6) (w : World) : Calls Tryd.prog 32 #[opVal o, .int .u8 (letterN n).toNat] w fun e w' => e = .returned (.int .i64 (o.get n)) ∧ Below w.heap.size w w' :=
  lapidaryref08_get.calls o.k o.a o.b o.c o.f o.s o.x o.y _ _ w (get_f o n hn)

/-- up to a part what is not named is 0 -/
def ZeroTo (o : OpN) (j : Nat) : Prop := ∀ n, n < j → (opNames o.k).contains n = true ∨ o.get n = 0
theorem zero_bare (o : OpN) (hk : opIs o.k = true) (h : ZeroTo o 7) : bareB o = true := by
  have h0 := h 0 (by omega)
  have h1 := h 1 (by omega)
  have h2 := h 2 (by omega)
  have h3 := h 3 (by omega)
  have h4 := h 4 (by omega)
  have h5 := h 5 (by omega)
  have h6 := h 6 (by omega)
  clear h
  obtain ⟨k, a, b, c, f, s, x, y⟩ := o
  simp only at hk
  unfold bareB
  rw [hk]
  rcases kinds_of hk with rfl | rfl | rfl | rfl | rfl | rfl | rfl | rfl | rfl | rfl | rfl
  all_goals
    simp [opNames, OpN.get] at h0 h1 h2 h3 h4 h5 h6
    simp [opNames, bareOf, OpN.set, zeroB, *]
theorem nonzero_bare (o : OpN) (n : Nat) (hn : n ≤ 6) (h1 : (opNames o.k).contains n = false) (h2 : o.get n ≠ 0) : bareB o = false := by
  cases hk : opIs o.k with
  | false => unfold bareB; rw [hk]; rfl
  | true =>
    obtain ⟨k, a, b, c, f, s, x, y⟩ := o
    simp only at hk h1
    unfold bareB
    rw [hk]
    rcases kinds_of hk with rfl | rfl | rfl | rfl | rfl | rfl | rfl | rfl | rfl | rfl | rfl
    all_goals
      obtain rfl | rfl | rfl | rfl | rfl | rfl | rfl : n = 0 ∨ n = 1 ∨ n = 2 ∨ n = 3 ∨ n = 4 ∨ n = 5 ∨ n = 6 := by omega
      all_goals first
        | (simp [opNames] at h1; done)
        | (simp [OpN.get] at h2; simp [opNames, bareOf, OpN.set, zeroB, h2])

end Go.Proofs.YtlohfcinffaagaaDoor
