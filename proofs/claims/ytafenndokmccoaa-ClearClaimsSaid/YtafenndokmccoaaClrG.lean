/- The reference of layer 'pack'; the law of layer 'wipe': the chapter's row. -/
import Derived.Test.YtafenndokmccoaaClrF
import Derived.Test.YtafenndokmccoaaClrS
namespace Go.Proofs.Ytafenndokmccoaa
open Go.RowKit
set_option linter.unusedVariables false
set_option linter.unusedSimpArgs false

theorem frB_false {s l h o : Int} (x : ¬ ((0 ≤ s ∧ s ≤ 1) ∧ (0 ≤ l ∧ l ≤ 4096) ∧ (0 ≤ h ∧ h ≤ 4096) ∧ (0 ≤ o ∧ o ≤ 4096) ∧ l + o ≤ h)) : frB s l h o = false := by
  cases e : frB s l h o with
  | false => rfl
  | true => exact absurd (frB_ok e) x
set_option maxHeartbeats 1600000 in
theorem rfRight_calls (s l h o : Int) (w : World) : Calls Try.prog 43 #[.agg #[.int .i64 s, .int .i64 l, .int .i64 h, .int .i64 o]] w fun e w' => e = .returned (.bool (frB s l h o)) ∧ Below w.heap.size w w' := by
  have H : (¬ s = 0 ∧ ¬ s = 1) ∨ ((s = 0 ∨ s = 1) ∧ (l < 0 ∨ (¬ l < 0 ∧ (4096 < l ∨ (¬ 4096 < l ∧ (h < 0 ∨ (¬ h < 0 ∧ (4096 < h ∨ (¬ 4096 < h ∧ (o < 0 ∨ (¬ o < 0 ∧ (4096 < o ∨ (¬ 4096 < o ∧ (l + o ≤ h ∨ ¬ l + o ≤ h)))))))))))))) := by omega
  rcases H with ⟨s0, s1⟩ | ⟨rfl | rfl, h1 | ⟨h1, h2 | ⟨h2, h3 | ⟨h3, h4 | ⟨h4, h5 | ⟨h5, h6 | ⟨h6, h7 | h7⟩⟩⟩⟩⟩⟩⟩
  all_goals
    first | rw [frB_false (by omega)] | rw [frB_mk (by omega) (by omega) (by omega) (by omega) (by omega)]
    go_enter Try.func43, Try.ntmps43
    go_wp2
    go_ret
    exact ⟨rfl, by (repeat (first | exact Below.refl _ _ | (with_reducible assumption) | refine Below.drew ?_ | refine Below.drewN' ?_ _ | refine Below.alloc ?_ (by first | omega | (simp; done) | (simp; omega)) _ | refine Below.setCell ?_ (by first | omega | (simp; done) | (simp; omega)) _ | refine Below.then ?_ hb9 (by first | omega | (simp; done) | (simp; omega)) | refine Below.then ?_ hb8 (by first | omega | (simp; done) | (simp; omega)) | refine Below.then ?_ hb7 (by first | omega | (simp; done) | (simp; omega)) | refine Below.then ?_ hb6 (by first | omega | (simp; done) | (simp; omega)) | refine Below.then ?_ hb5 (by first | omega | (simp; done) | (simp; omega)) | refine Below.then ?_ hb4 (by first | omega | (simp; done) | (simp; omega)) | refine Below.then ?_ hb3 (by first | omega | (simp; done) | (simp; omega)) | refine Below.then ?_ hb2 (by first | omega | (simp; done) | (simp; omega)) | refine Below.then ?_ hb1 (by first | omega | (simp; done) | (simp; omega))))⟩
set_option maxHeartbeats 800000 in
theorem rfFrontW_calls (s l h o : Int) (w : World) : Calls Try.prog 18 #[.agg #[.int .i64 s, .int .i64 l, .int .i64 h, .int .i64 o]] w fun e w' => e = .returned (.tuple #[.int .u64 (frW s l h o), .int .i64 (frE s l h o)]) ∧ Below w.heap.size w w' := by
  have HR := fun W => rfRight_calls s l h o W
  unfold frW frE
  cases hb : frB s l h o with
  | false =>
    rw [hb] at HR
    simp only [Bool.false_eq_true, if_false]
    have HR := Lib.hid HR
    go_enter Try.func18, Try.ntmps18
    go_wp2_with fail
    refine (HR.out _).mono ?_; rintro e1 w1 ⟨rfl, hb1⟩; have hz1 := hb1.size; (try simp at hz1)
    go_wp2
    go_ret2
    exact ⟨rfl, by (repeat (first | exact Below.refl _ _ | (with_reducible assumption) | refine Below.drew ?_ | refine Below.drewN' ?_ _ | refine Below.alloc ?_ (by first | omega | (simp; done) | (simp; omega)) _ | refine Below.setCell ?_ (by first | omega | (simp; done) | (simp; omega)) _ | refine Below.then ?_ hb9 (by first | omega | (simp; done) | (simp; omega)) | refine Below.then ?_ hb8 (by first | omega | (simp; done) | (simp; omega)) | refine Below.then ?_ hb7 (by first | omega | (simp; done) | (simp; omega)) | refine Below.then ?_ hb6 (by first | omega | (simp; done) | (simp; omega)) | refine Below.then ?_ hb5 (by first | omega | (simp; done) | (simp; omega)) | refine Below.then ?_ hb4 (by first | omega | (simp; done) | (simp; omega)) | refine Below.then ?_ hb3 (by first | omega | (simp; done) | (simp; omega)) | refine Below.then ?_ hb2 (by first | omega | (simp; done) | (simp; omega)) | refine Below.then ?_ hb1 (by first | omega | (simp; done) | (simp; omega))))⟩
  | true =>
    rw [hb] at HR
    simp only [if_true]
    obtain ⟨a, b, c, d, e⟩ := frB_ok hb
    have HR := Lib.hid HR
    have HV := Lib.hid (show s + 2 * (l + 8192 * (h + 8192 * o)) = frV s l h o from rfl)
    go_enter Try.func18, Try.ntmps18
    go_wp2_with fail
    refine (HR.out _).mono ?_; rintro e1 w1 ⟨rfl, hb1⟩; obtain ⟨hc1, hf1⟩ := bcell hb1; have hz1 := hb1.size; (try simp at hz1)
    have q0 := hc1 w.heap.size 0 (by first | omega | (simp; done) | (simp; omega)); simp [go_sem] at q0
    have q1 := hc1 w.heap.size 1 (by first | omega | (simp; done) | (simp; omega)); simp [go_sem] at q1
    have q2 := hc1 w.heap.size 2 (by first | omega | (simp; done) | (simp; omega)); simp [go_sem] at q2
    have q3 := hc1 w.heap.size 3 (by first | omega | (simp; done) | (simp; omega)); simp [go_sem] at q3
    go_wp2
    go_ret2
    exact ⟨by rw [← HV.out]; first | rfl | (congr 4; omega), by (repeat (first | exact Below.refl _ _ | (with_reducible assumption) | refine Below.drew ?_ | refine Below.drewN' ?_ _ | refine Below.alloc ?_ (by first | omega | (simp; done) | (simp; omega)) _ | refine Below.setCell ?_ (by first | omega | (simp; done) | (simp; omega)) _ | refine Below.then ?_ hb9 (by first | omega | (simp; done) | (simp; omega)) | refine Below.then ?_ hb8 (by first | omega | (simp; done) | (simp; omega)) | refine Below.then ?_ hb7 (by first | omega | (simp; done) | (simp; omega)) | refine Below.then ?_ hb6 (by first | omega | (simp; done) | (simp; omega)) | refine Below.then ?_ hb5 (by first | omega | (simp; done) | (simp; omega)) | refine Below.then ?_ hb4 (by first | omega | (simp; done) | (simp; omega)) | refine Below.then ?_ hb3 (by first | omega | (simp; done) | (simp; omega)) | refine Below.then ?_ hb2 (by first | omega | (simp; done) | (simp; omega)) | refine Below.then ?_ hb1 (by first | omega | (simp; done) | (simp; omega))))⟩
set_option maxHeartbeats 1600000 in
theorem rfOfFront_calls (x : Int) (h0 : 0 ≤ x) (h1 : x < 18446744073709551616) (w : World) : Calls Try.prog 16 #[.int .u64 x] w fun e w' =>
    e = .returned (.tuple #[.agg #[.int .i64 (fwS x), .int .i64 (fwL x), .int .i64 (fwH x), .int .i64 (fwO x)], .int .i64 (fwR x)]) ∧ Below w.heap.size w w' := by
  have HR := fun W => rfRight_calls (x % 2) (x / 2 % 8192) (x / 2 / 8192 % 8192) (x / 2 / 67108864) W
  by_cases hq : x / 2 < 549755813888
  · have eB : fwB x = frB (x % 2) (x / 2 % 8192) (x / 2 / 8192 % 8192) (x / 2 / 67108864) := by unfold fwB; rw [decide_eq_true hq, Bool.true_and]
    have hq' : ¬ 549755813888 ≤ x / 2 := by omega
    cases hB : fwB x with
    | false =>
      have eS : fwS x = 0 ∧ fwL x = 0 ∧ fwH x = 0 ∧ fwO x = 0 ∧ fwR x = 2 := by simp [fwS, fwL, fwH, fwO, fwR, hB]
      rw [eS.1, eS.2.1, eS.2.2.1, eS.2.2.2.1, eS.2.2.2.2]
      rw [← eB, hB] at HR
      have HR := Lib.hid HR
      clear eS eB hB
      go_enter Try.func16, Try.ntmps16
      go_wp2_with fail
      refine (HR.out _).mono ?_; rintro e1 w1 ⟨rfl, hb1⟩; obtain ⟨hc1, hf1⟩ := bcell hb1; have hz1 := hb1.size; (try simp at hz1)
      have r0 := hc1 w.heap.size 0 (by first | omega | (simp; done) | (simp; omega)); simp [go_sem] at r0
      have r1 := hc1 w.heap.size 1 (by first | omega | (simp; done) | (simp; omega)); simp [go_sem] at r1
      have r2 := hc1 w.heap.size 2 (by first | omega | (simp; done) | (simp; omega)); simp [go_sem] at r2
      have r3 := hc1 w.heap.size 3 (by first | omega | (simp; done) | (simp; omega)); simp [go_sem] at r3
      have z0 := hf1 w.heap.size 0 (by first | omega | (simp; done) | (simp; omega)); simp [go_sem] at z0
      have z1 := hf1 w.heap.size 1 (by first | omega | (simp; done) | (simp; omega)); simp [go_sem] at z1
      have z2 := hf1 w.heap.size 2 (by first | omega | (simp; done) | (simp; omega)); simp [go_sem] at z2
      have z3 := hf1 w.heap.size 3 (by first | omega | (simp; done) | (simp; omega)); simp [go_sem] at z3
      go_wp2
      exact bodyPost_ret (v := .tuple #[.agg #[.int .i64 0, .int .i64 0, .int .i64 0, .int .i64 0], .int .i64 2]) (by simp [results, Try.results16, go_sem, World.cell?_setCell_same', cell_off, *]) rfl ⟨rfl, by (repeat (first | exact Below.refl _ _ | (with_reducible assumption) | refine Below.drew ?_ | refine Below.drewN' ?_ _ | refine Below.alloc ?_ (by first | omega | (simp; done) | (simp; omega)) _ | refine Below.setCell ?_ (by first | omega | (simp; done) | (simp; omega)) _ | refine Below.then ?_ hb9 (by first | omega | (simp; done) | (simp; omega)) | refine Below.then ?_ hb8 (by first | omega | (simp; done) | (simp; omega)) | refine Below.then ?_ hb7 (by first | omega | (simp; done) | (simp; omega)) | refine Below.then ?_ hb6 (by first | omega | (simp; done) | (simp; omega)) | refine Below.then ?_ hb5 (by first | omega | (simp; done) | (simp; omega)) | refine Below.then ?_ hb4 (by first | omega | (simp; done) | (simp; omega)) | refine Below.then ?_ hb3 (by first | omega | (simp; done) | (simp; omega)) | refine Below.then ?_ hb2 (by first | omega | (simp; done) | (simp; omega)) | refine Below.then ?_ hb1 (by first | omega | (simp; done) | (simp; omega))))⟩
    | true =>
      have eS : fwS x = x % 2 ∧ fwL x = x / 2 % 8192 ∧ fwH x = x / 2 / 8192 % 8192 ∧ fwO x = x / 2 / 67108864 ∧ fwR x = 0 := by simp [fwS, fwL, fwH, fwO, fwR, hB]
      rw [eS.1, eS.2.1, eS.2.2.1, eS.2.2.2.1, eS.2.2.2.2]
      rw [← eB, hB] at HR
      have HR := Lib.hid HR
      clear eS eB hB
      go_enter Try.func16, Try.ntmps16
      go_wp2_with fail
      refine (HR.out _).mono ?_; rintro e1 w1 ⟨rfl, hb1⟩; obtain ⟨hc1, hf1⟩ := bcell hb1; have hz1 := hb1.size; (try simp at hz1)
      have x0 := hc1 (w.heap.size + 1) 0 (by first | omega | (simp; done) | (simp; omega)); simp [go_sem] at x0
      have x1 := hc1 (w.heap.size + 1) 1 (by first | omega | (simp; done) | (simp; omega)); simp [go_sem] at x1
      have x2 := hc1 (w.heap.size + 1) 2 (by first | omega | (simp; done) | (simp; omega)); simp [go_sem] at x2
      have x3 := hc1 (w.heap.size + 1) 3 (by first | omega | (simp; done) | (simp; omega)); simp [go_sem] at x3
      have r0 := hc1 w.heap.size 0 (by first | omega | (simp; done) | (simp; omega)); simp [go_sem] at r0
      have r1 := hc1 w.heap.size 1 (by first | omega | (simp; done) | (simp; omega)); simp [go_sem] at r1
      have r2 := hc1 w.heap.size 2 (by first | omega | (simp; done) | (simp; omega)); simp [go_sem] at r2
      have r3 := hc1 w.heap.size 3 (by first | omega | (simp; done) | (simp; omega)); simp [go_sem] at r3
      have z0 := hf1 w.heap.size 0 (by first | omega | (simp; done) | (simp; omega)); simp [go_sem] at z0
      have z1 := hf1 w.heap.size 1 (by first | omega | (simp; done) | (simp; omega)); simp [go_sem] at z1
      have z2 := hf1 w.heap.size 2 (by first | omega | (simp; done) | (simp; omega)); simp [go_sem] at z2
      have z3 := hf1 w.heap.size 3 (by first | omega | (simp; done) | (simp; omega)); simp [go_sem] at z3
      go_wp2
      exact bodyPost_ret (v := .tuple #[.agg #[.int .i64 (x % 2), .int .i64 (x / 2 % 8192), .int .i64 (x / 2 / 8192 % 8192), .int .i64 (x / 2 / 67108864)], .int .i64 0]) (by simp [results, Try.results16, go_sem, World.cell?_setCell_same', cell_off, *]) rfl ⟨rfl, by (repeat (first | exact Below.refl _ _ | (with_reducible assumption) | refine Below.drew ?_ | refine Below.drewN' ?_ _ | refine Below.alloc ?_ (by first | omega | (simp; done) | (simp; omega)) _ | refine Below.setCell ?_ (by first | omega | (simp; done) | (simp; omega)) _ | refine Below.then ?_ hb9 (by first | omega | (simp; done) | (simp; omega)) | refine Below.then ?_ hb8 (by first | omega | (simp; done) | (simp; omega)) | refine Below.then ?_ hb7 (by first | omega | (simp; done) | (simp; omega)) | refine Below.then ?_ hb6 (by first | omega | (simp; done) | (simp; omega)) | refine Below.then ?_ hb5 (by first | omega | (simp; done) | (simp; omega)) | refine Below.then ?_ hb4 (by first | omega | (simp; done) | (simp; omega)) | refine Below.then ?_ hb3 (by first | omega | (simp; done) | (simp; omega)) | refine Below.then ?_ hb2 (by first | omega | (simp; done) | (simp; omega)) | refine Below.then ?_ hb1 (by first | omega | (simp; done) | (simp; omega))))⟩
  · have eB : fwB x = false := by unfold fwB; rw [decide_eq_false hq, Bool.false_and]
    have eS : fwS x = 0 ∧ fwL x = 0 ∧ fwH x = 0 ∧ fwO x = 0 ∧ fwR x = 2 := by simp [fwS, fwL, fwH, fwO, fwR, eB]
    rw [eS.1, eS.2.1, eS.2.2.1, eS.2.2.2.1, eS.2.2.2.2]
    have hq' : 549755813888 ≤ x / 2 := by omega
    clear eS eB hq HR
    go_enter Try.func16, Try.ntmps16
    go_wp2
    exact bodyPost_ret (v := .tuple #[.agg #[.int .i64 0, .int .i64 0, .int .i64 0, .int .i64 0], .int .i64 2]) (by simp [results, Try.results16, go_sem, World.cell?_setCell_same', cell_off, *]) rfl ⟨rfl, by (repeat (first | exact Below.refl _ _ | (with_reducible assumption) | refine Below.drew ?_ | refine Below.drewN' ?_ _ | refine Below.alloc ?_ (by first | omega | (simp; done) | (simp; omega)) _ | refine Below.setCell ?_ (by first | omega | (simp; done) | (simp; omega)) _ | refine Below.then ?_ hb9 (by first | omega | (simp; done) | (simp; omega)) | refine Below.then ?_ hb8 (by first | omega | (simp; done) | (simp; omega)) | refine Below.then ?_ hb7 (by first | omega | (simp; done) | (simp; omega)) | refine Below.then ?_ hb6 (by first | omega | (simp; done) | (simp; omega)) | refine Below.then ?_ hb5 (by first | omega | (simp; done) | (simp; omega)) | refine Below.then ?_ hb4 (by first | omega | (simp; done) | (simp; omega)) | refine Below.then ?_ hb3 (by first | omega | (simp; done) | (simp; omega)) | refine Below.then ?_ hb2 (by first | omega | (simp; done) | (simp; omega)) | refine Below.then ?_ hb1 (by first | omega | (simp; done) | (simp; omega))))⟩
end Go.Proofs.Ytafenndokmccoaa
