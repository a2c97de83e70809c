/- The reference of layer 'word': what a word is. -/
import Derived.Test.YtflomobdaagekaaDoorKit
namespace Go.Proofs.YtflomobdaagekaaDoor
open Go.RowKit
set_option linter.unusedVariables false
set_option linter.unusedSimpArgs false

def wEven (x : Int) : Int := x - x % 2
def wdK (x : Int) : Int := if x = 2 then 4 else if wEven x = 0 then 1 else if wEven x % 8 = 0 ∧ wEven x / 8 ≤ 16777215 then 2 else if wEven x % 8 = 4 ∧ wEven x / 8 < 1152921504606846976 then 3 else 0
def wdS (x : Int) : Bool := decide (wdK x ≠ 0 ∧ wdK x ≠ 4 ∧ x % 2 = 1)
def wdV (x : Int) : Int := if wdK x = 2 then wEven x / 8 else if wdK x = 3 then wEven x / 8 - 576460752303423488 else 0

set_option maxHeartbeats 1600000 in
theorem wdOf_calls (x : Int) (h0 : 0 ≤ x) (h1 : x < 18446744073709551616) (w : World) :
    Calls Tryd.prog 13 #[.int .u64 x] w fun e w' => e = .returned (.agg #[.int .i64 (wdK x), .bool (wdS x), .int .i64 (wdV x)]) ∧ Below w.heap.size w w' := by
  by_cases a2 : x = 2
  · have e1 : wdK x = 4 := by simp [wdK, a2]
    have e2 : wdS x = false := by simp [wdS, e1]
    have e3 : wdV x = 0 := by simp [wdV, e1]
    rw [e1, e2, e3]
    have b1 : (x == 2) = true := by simp [a2]
    clear e1 e2 e3 a2
    go_enter Tryd.func13, Tryd.ntmps13
    go_wp2
    exact bodyPost_ret (v := .agg #[.int .i64 4, .bool false, .int .i64 0]) (by simp [results, Tryd.results13, go_sem]) rfl ⟨rfl, by (repeat (first | exact Below.refl _ _ | (with_reducible assumption) | refine Below.drew ?_ | refine Below.drewN' ?_ _ | refine Below.alloc ?_ (by first | omega | (simp; done) | (simp; omega)) _ | refine Below.setCell ?_ (by first | omega | (simp; done) | (simp; omega)) _ | refine Below.then ?_ hb9 (by first | omega | (simp; done) | (simp; omega)) | refine Below.then ?_ hb8 (by first | omega | (simp; done) | (simp; omega)) | refine Below.then ?_ hb7 (by first | omega | (simp; done) | (simp; omega)) | refine Below.then ?_ hb6 (by first | omega | (simp; done) | (simp; omega)) | refine Below.then ?_ hb5 (by first | omega | (simp; done) | (simp; omega)) | refine Below.then ?_ hb4 (by first | omega | (simp; done) | (simp; omega)) | refine Below.then ?_ hb3 (by first | omega | (simp; done) | (simp; omega)) | refine Below.then ?_ hb2 (by first | omega | (simp; done) | (simp; omega)) | refine Below.then ?_ hb1 (by first | omega | (simp; done) | (simp; omega))))⟩
  · have b1 : (x == 2) = false := by simp [a2]
    have c0 : 0 ≤ x - x % 2 := by omega
    have c1 : 0 ≤ (x - x % 2) / 8 := by omega
    have c2 : (x - x % 2) / 8 ≤ 2305843009213693952 := by omega
    have e2 : wdS x = (decide (wdK x ≠ 0) && decide (wdK x ≠ 4) && (x % 2 == 1)) := by
      unfold wdS; rw [Bool.eq_iff_iff]; simp [and_assoc]
    by_cases a0 : x - x % 2 = 0
    · have e1 : wdK x = 1 := by simp [wdK, a2, wEven, a0]
      have e3 : wdV x = 0 := by simp [wdV, e1]
      rw [e1] at e2
      rw [e1, e2, e3]
      have b2 : (x - x % 2 == 0) = true := by simp [a0]
      clear e1 e2 e3 a2 a0
      go_enter Tryd.func13, Tryd.ntmps13
      go_wp2
      exact bodyPost_ret (v := .agg #[.int .i64 1, .bool (x % 2 == 1), .int .i64 0]) (by simp [results, Tryd.results13, go_sem]) rfl ⟨by simp, by (repeat (first | exact Below.refl _ _ | (with_reducible assumption) | refine Below.drew ?_ | refine Below.drewN' ?_ _ | refine Below.alloc ?_ (by first | omega | (simp; done) | (simp; omega)) _ | refine Below.setCell ?_ (by first | omega | (simp; done) | (simp; omega)) _ | refine Below.then ?_ hb9 (by first | omega | (simp; done) | (simp; omega)) | refine Below.then ?_ hb8 (by first | omega | (simp; done) | (simp; omega)) | refine Below.then ?_ hb7 (by first | omega | (simp; done) | (simp; omega)) | refine Below.then ?_ hb6 (by first | omega | (simp; done) | (simp; omega)) | refine Below.then ?_ hb5 (by first | omega | (simp; done) | (simp; omega)) | refine Below.then ?_ hb4 (by first | omega | (simp; done) | (simp; omega)) | refine Below.then ?_ hb3 (by first | omega | (simp; done) | (simp; omega)) | refine Below.then ?_ hb2 (by first | omega | (simp; done) | (simp; omega)) | refine Below.then ?_ hb1 (by first | omega | (simp; done) | (simp; omega))))⟩
    · have b2 : (x - x % 2 == 0) = false := by simp [a0]
      by_cases a8 : (x - x % 2) % 8 = 0
      · have b3 : ((x - x % 2) % 8 == 0) = true := by simp [a8]
        by_cases ad : (x - x % 2) / 8 ≤ 16777215
        · have e1 : wdK x = 2 := by unfold wdK wEven; rw [if_neg a2, if_neg a0, if_pos ⟨a8, ad⟩]
          have e3 : wdV x = (x - x % 2) / 8 := by unfold wdV; rw [if_pos e1]; rfl
          rw [e1] at e2
          rw [e1, e2, e3]
          clear e1 e2 e3 a2 a0 a8
          go_enter Tryd.func13, Tryd.ntmps13
          go_wp2
          exact bodyPost_ret (v := .agg #[.int .i64 2, .bool (x % 2 == 1), .int .i64 ((x - x % 2) / 8)]) (by simp [results, Tryd.results13, go_sem]) rfl ⟨by simp, by (repeat (first | exact Below.refl _ _ | (with_reducible assumption) | refine Below.drew ?_ | refine Below.drewN' ?_ _ | refine Below.alloc ?_ (by first | omega | (simp; done) | (simp; omega)) _ | refine Below.setCell ?_ (by first | omega | (simp; done) | (simp; omega)) _ | refine Below.then ?_ hb9 (by first | omega | (simp; done) | (simp; omega)) | refine Below.then ?_ hb8 (by first | omega | (simp; done) | (simp; omega)) | refine Below.then ?_ hb7 (by first | omega | (simp; done) | (simp; omega)) | refine Below.then ?_ hb6 (by first | omega | (simp; done) | (simp; omega)) | refine Below.then ?_ hb5 (by first | omega | (simp; done) | (simp; omega)) | refine Below.then ?_ hb4 (by first | omega | (simp; done) | (simp; omega)) | refine Below.then ?_ hb3 (by first | omega | (simp; done) | (simp; omega)) | refine Below.then ?_ hb2 (by first | omega | (simp; done) | (simp; omega)) | refine Below.then ?_ hb1 (by first | omega | (simp; done) | (simp; omega))))⟩
        · have e1 : wdK x = 0 := by unfold wdK wEven; rw [if_neg a2, if_neg a0, if_neg (by omega), if_neg (by omega)]
          have e3 : wdV x = 0 := by unfold wdV; rw [if_neg (by omega), if_neg (by omega)]
          have b4 : ((x - x % 2) % 8 == 4) = false := by simp; omega
          have ad' : 16777215 < (x - x % 2) / 8 := by omega
          rw [e1] at e2
          rw [e1, e2, e3]
          clear e1 e2 e3 a2 a0 a8 ad
          go_enter Tryd.func13, Tryd.ntmps13
          go_wp2
          exact bodyPost_ret (v := .agg #[.int .i64 0, .bool false, .int .i64 0]) (by simp [results, Tryd.results13, go_sem]) rfl ⟨by simp, by (repeat (first | exact Below.refl _ _ | (with_reducible assumption) | refine Below.drew ?_ | refine Below.drewN' ?_ _ | refine Below.alloc ?_ (by first | omega | (simp; done) | (simp; omega)) _ | refine Below.setCell ?_ (by first | omega | (simp; done) | (simp; omega)) _ | refine Below.then ?_ hb9 (by first | omega | (simp; done) | (simp; omega)) | refine Below.then ?_ hb8 (by first | omega | (simp; done) | (simp; omega)) | refine Below.then ?_ hb7 (by first | omega | (simp; done) | (simp; omega)) | refine Below.then ?_ hb6 (by first | omega | (simp; done) | (simp; omega)) | refine Below.then ?_ hb5 (by first | omega | (simp; done) | (simp; omega)) | refine Below.then ?_ hb4 (by first | omega | (simp; done) | (simp; omega)) | refine Below.then ?_ hb3 (by first | omega | (simp; done) | (simp; omega)) | refine Below.then ?_ hb2 (by first | omega | (simp; done) | (simp; omega)) | refine Below.then ?_ hb1 (by first | omega | (simp; done) | (simp; omega))))⟩
      · have b3 : ((x - x % 2) % 8 == 0) = false := by simp [a8]
        by_cases a4 : (x - x % 2) % 8 = 4
        · have b4 : ((x - x % 2) % 8 == 4) = true := by simp [a4]
          by_cases ad : (x - x % 2) / 8 < 1152921504606846976
          · have e1 : wdK x = 3 := by unfold wdK wEven; rw [if_neg a2, if_neg a0, if_neg (by omega), if_pos ⟨a4, ad⟩]
            have e3 : wdV x = (x - x % 2) / 8 - 576460752303423488 := by unfold wdV; rw [if_neg (by omega), if_pos e1]; rfl
            rw [e1] at e2
            rw [e1, e2, e3]
            clear e1 e2 e3 a2 a0 a8 a4
            go_enter Tryd.func13, Tryd.ntmps13
            go_wp2
            exact bodyPost_ret (v := .agg #[.int .i64 3, .bool (x % 2 == 1), .int .i64 ((x - x % 2) / 8 - 576460752303423488)]) (by simp [results, Tryd.results13, go_sem]) rfl ⟨by simp, by (repeat (first | exact Below.refl _ _ | (with_reducible assumption) | refine Below.drew ?_ | refine Below.drewN' ?_ _ | refine Below.alloc ?_ (by first | omega | (simp; done) | (simp; omega)) _ | refine Below.setCell ?_ (by first | omega | (simp; done) | (simp; omega)) _ | refine Below.then ?_ hb9 (by first | omega | (simp; done) | (simp; omega)) | refine Below.then ?_ hb8 (by first | omega | (simp; done) | (simp; omega)) | refine Below.then ?_ hb7 (by first | omega | (simp; done) | (simp; omega)) | refine Below.then ?_ hb6 (by first | omega | (simp; done) | (simp; omega)) | refine Below.then ?_ hb5 (by first | omega | (simp; done) | (simp; omega)) | refine Below.then ?_ hb4 (by first | omega | (simp; done) | (simp; omega)) | refine Below.then ?_ hb3 (by first | omega | (simp; done) | (simp; omega)) | refine Below.then ?_ hb2 (by first | omega | (simp; done) | (simp; omega)) | refine Below.then ?_ hb1 (by first | omega | (simp; done) | (simp; omega))))⟩
          · have e1 : wdK x = 0 := by unfold wdK wEven; rw [if_neg a2, if_neg a0, if_neg (by omega), if_neg (by omega)]
            have e3 : wdV x = 0 := by unfold wdV; rw [if_neg (by omega), if_neg (by omega)]
            have ad' : 1152921504606846976 ≤ (x - x % 2) / 8 := by omega
            rw [e1] at e2
            rw [e1, e2, e3]
            clear e1 e2 e3 a2 a0 a8 ad a4
            go_enter Tryd.func13, Tryd.ntmps13
            go_wp2
            exact bodyPost_ret (v := .agg #[.int .i64 0, .bool false, .int .i64 0]) (by simp [results, Tryd.results13, go_sem]) rfl ⟨by simp, by (repeat (first | exact Below.refl _ _ | (with_reducible assumption) | refine Below.drew ?_ | refine Below.drewN' ?_ _ | refine Below.alloc ?_ (by first | omega | (simp; done) | (simp; omega)) _ | refine Below.setCell ?_ (by first | omega | (simp; done) | (simp; omega)) _ | refine Below.then ?_ hb9 (by first | omega | (simp; done) | (simp; omega)) | refine Below.then ?_ hb8 (by first | omega | (simp; done) | (simp; omega)) | refine Below.then ?_ hb7 (by first | omega | (simp; done) | (simp; omega)) | refine Below.then ?_ hb6 (by first | omega | (simp; done) | (simp; omega)) | refine Below.then ?_ hb5 (by first | omega | (simp; done) | (simp; omega)) | refine Below.then ?_ hb4 (by first | omega | (simp; done) | (simp; omega)) | refine Below.then ?_ hb3 (by first | omega | (simp; done) | (simp; omega)) | refine Below.then ?_ hb2 (by first | omega | (simp; done) | (simp; omega)) | refine Below.then ?_ hb1 (by first | omega | (simp; done) | (simp; omega))))⟩
        · have b4 : ((x - x % 2) % 8 == 4) = false := by simp [a4]
          have e1 : wdK x = 0 := by unfold wdK wEven; rw [if_neg a2, if_neg a0, if_neg (by omega), if_neg (by omega)]
          have e3 : wdV x = 0 := by unfold wdV; rw [if_neg (by omega), if_neg (by omega)]
          rw [e1] at e2
          rw [e1, e2, e3]
          clear e1 e2 e3 a2 a0 a8 a4
          go_enter Tryd.func13, Tryd.ntmps13
          go_wp2
          exact bodyPost_ret (v := .agg #[.int .i64 0, .bool false, .int .i64 0]) (by simp [results, Tryd.results13, go_sem]) rfl ⟨by simp, by (repeat (first | exact Below.refl _ _ | (with_reducible assumption) | refine Below.drew ?_ | refine Below.drewN' ?_ _ | refine Below.alloc ?_ (by first | omega | (simp; done) | (simp; omega)) _ | refine Below.setCell ?_ (by first | omega | (simp; done) | (simp; omega)) _ | refine Below.then ?_ hb9 (by first | omega | (simp; done) | (simp; omega)) | refine Below.then ?_ hb8 (by first | omega | (simp; done) | (simp; omega)) | refine Below.then ?_ hb7 (by first | omega | (simp; done) | (simp; omega)) | refine Below.then ?_ hb6 (by first | omega | (simp; done) | (simp; omega)) | refine Below.then ?_ hb5 (by first | omega | (simp; done) | (simp; omega)) | refine Below.then ?_ hb4 (by first | omega | (simp; done) | (simp; omega)) | refine Below.then ?_ hb3 (by first | omega | (simp; done) | (simp; omega)) | refine Below.then ?_ hb2 (by first | omega | (simp; done) | (simp; omega)) | refine Below.then ?_ hb1 (by first | omega | (simp; done) | (simp; omega))))⟩

end Go.Proofs.YtflomobdaagekaaDoor
