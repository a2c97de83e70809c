/- The layer 'word': the word that is made, all kinds. -/
import Derived.Test.YtiodkcecpnomcaaDoorMake
namespace Go.Proofs.YtiodkcecpnomcaaDoor
open Go.RowKit
set_option linter.unusedVariables false
set_option linter.unusedSimpArgs false

theorem wmake_calls (K : Int) (S : Bool) (V : Int) (w : World) :
    Calls Tryd.prog 65 #[.agg #[.int .i64 K, .bool S, .int .i64 V]] w fun e w' => e = .returned (.tuple #[.int .u64 (mkW K S V), .int .i64 (mkE K S V)]) ∧ Below w.heap.size w w' := by
  have no : mkE K S V ≠ 0 → mkW K S V = 0 := fun h => by unfold mkW; rw [if_neg h]
  have yes : mkE K S V = 0 → mkW K S V = mkB K V + (if S = true then 1 else 0) := fun h => by unfold mkW; rw [if_pos h]
  by_cases h0 : K ≤ 0
  · have e : mkE K S V = 2 := by unfold mkE; rw [if_pos (.inl h0)]
    rw [no (by rw [e]; decide), e]
    exact make_bad1 K V S h0 w
  by_cases h4 : 4 < K
  · have e : mkE K S V = 2 := by unfold mkE; rw [if_pos (.inr (.inl h4))]
    rw [no (by rw [e]; decide), e]
    exact make_bad2 K V S h4 w
  rcases (show K = 1 ∨ K = 2 ∨ K = 3 ∨ K = 4 by omega) with rfl | rfl | rfl | rfl
  · have e : mkE 1 S V = if V = 0 then 0 else 2 := by unfold mkE; rw [if_neg (by simp), if_neg (by decide), if_neg (by decide)]
    by_cases hv : V = 0
    · subst hv
      rw [if_pos rfl] at e
      rw [yes e, e]
      cases S
      · exact make_ok1f w
      · exact make_ok1t w
    · rw [if_neg hv] at e
      rw [no (by rw [e]; decide), e]
      by_cases hl : V < 0
      · exact make_lo1 S V hl w
      · exact make_hi1 S V (by omega) (by omega) w
  · have e : mkE 2 S V = if 1 ≤ V ∧ V ≤ 16777215 then 0 else 4 := by unfold mkE; rw [if_neg (by simp), if_pos rfl]
    by_cases hv : 1 ≤ V ∧ V ≤ 16777215
    · rw [if_pos hv] at e
      rw [yes e, e]
      cases S
      · refine (make_ok2f V hv.1 hv.2 w).mono fun e w' h => ⟨?_, h.2⟩
        rw [h.1]; exact ret_wi (by simp [mkB])
      · refine (make_ok2t V hv.1 hv.2 w).mono fun e w' h => ⟨?_, h.2⟩
        rw [h.1]; exact ret_wi (by simp [mkB])
    · rw [if_neg hv] at e
      rw [no (by rw [e]; decide), e]
      by_cases hl : V < 1
      · exact make_lo2 S V hl w
      · exact make_hi2 S V (by omega) (by omega) w
  · have e : mkE 3 S V = if -576460752303423488 ≤ V ∧ V ≤ 576460752303423487 then 0 else 4 := by unfold mkE; rw [if_neg (by simp), if_neg (by decide), if_pos rfl]
    by_cases hv : -576460752303423488 ≤ V ∧ V ≤ 576460752303423487
    · rw [if_pos hv] at e
      rw [yes e, e]
      cases S
      · refine (make_ok3f V hv.1 hv.2 w).mono fun e w' h => ⟨?_, h.2⟩
        rw [h.1]; exact ret_wi (by simp [mkB])
      · refine (make_ok3t V hv.1 hv.2 w).mono fun e w' h => ⟨?_, h.2⟩
        rw [h.1]; exact ret_wi (by simp [mkB])
    · rw [if_neg hv] at e
      rw [no (by rw [e]; decide), e]
      by_cases hl : V < -576460752303423488
      · exact make_lo3 S V hl w
      · exact make_hi3 S V (by omega) (by omega) w
  · cases S
    · have e : mkE 4 false V = if V = 0 then 0 else 2 := by unfold mkE; rw [if_neg (by simp), if_neg (by decide), if_neg (by decide)]
      by_cases hv : V = 0
      · subst hv
        rw [if_pos rfl] at e
        rw [yes e, e]
        exact make_ok4 w
      · rw [if_neg hv] at e
        rw [no (by rw [e]; decide), e]
        by_cases hl : V < 0
        · exact make_lo4 V hl w
        · exact make_hi4 V (by omega) (by omega) w
    · have e : mkE 4 true V = 2 := by unfold mkE; rw [if_pos (by decide)]
      rw [no (by rw [e]; decide), e]
      exact make_bad3 V w

end Go.Proofs.YtiodkcecpnomcaaDoor
