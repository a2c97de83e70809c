/- A text cut at its blanks, as a list of bytes. -/
import Derived.Test.YtlohfcinffaagaaDoorKit
import Derived.Lib.Bytealg
namespace Go.Proofs.YtlohfcinffaagaaDoor
set_option linter.unusedVariables false
set_option linter.unusedSimpArgs false

/-- the pieces of a text between its blanks -/
def splitSp : List UInt8 → List (List UInt8)
  | [] => [[]]
  | c :: cs => if c = 32 then [] :: splitSp cs else match splitSp cs with | [] => [[c]] | p :: ps => (c :: p) :: ps

theorem splitSp_ne (l : List UInt8) : splitSp l ≠ [] := by
  cases l with
  | nil => simp [splitSp]
  | cons c cs =>
    unfold splitSp
    by_cases h : c = 32
    · rw [if_pos h]; simp
    · rw [if_neg h]; split <;> simp

theorem index_lo (l : List UInt8) : -1 ≤ Lib.indexByte l 32 ∧ Lib.indexByte l 32 < l.length := by
  induction l with
  | nil => simp [Lib.indexByte]
  | cons c cs ih =>
    unfold Lib.indexByte
    split
    · simp
    · split <;> simp at ih ⊢ <;> omega

theorem splitSp_no (l : List UInt8) (h : Lib.indexByte l 32 < 0) : splitSp l = [l] := by
  induction l with
  | nil => rfl
  | cons c cs ih =>
    have hlo := (index_lo cs).1
    unfold Lib.indexByte at h
    by_cases hc : c = 32
    · subst hc; simp at h
    · have e : (c == 32) = false := by simp [hc]
      rw [e] at h
      have h' : Lib.indexByte cs 32 < 0 := by
        by_cases e2 : Lib.indexByte cs 32 = -1
        · omega
        · have e3 : (Lib.indexByte cs 32 == -1) = false := by simp [e2]
          rw [e3] at h
          simp at h
          omega
      unfold splitSp
      rw [if_neg hc, ih h']
theorem splitSp_at (l : List UInt8) : ∀ (i : Nat), Lib.indexByte l 32 = i → splitSp l = l.take i :: splitSp (l.drop (i + 1)) := by
  induction l with
  | nil => intro i h; simp [Lib.indexByte] at h
  | cons c cs ih =>
    intro i h
    have hlo := (index_lo cs).1
    unfold Lib.indexByte at h
    by_cases hc : c = 32
    · subst hc
      obtain rfl : i = 0 := by simp at h; omega
      simp [splitSp]
    · have e : (c == 32) = false := by simp [hc]
      rw [e] at h
      by_cases e2 : Lib.indexByte cs 32 = -1
      · have e3 : (Lib.indexByte cs 32 == -1) = true := by simp [e2]
        rw [e3] at h
        simp at h
      · have e3 : (Lib.indexByte cs 32 == -1) = false := by simp [e2]
        rw [e3] at h
        simp at h
        obtain ⟨j, rfl⟩ : ∃ j, i = j + 1 := ⟨i - 1, by omega⟩
        have hj := ih j (by omega)
        rw [splitSp, if_neg hc, hj]
        simp

end Go.Proofs.YtlohfcinffaagaaDoor
