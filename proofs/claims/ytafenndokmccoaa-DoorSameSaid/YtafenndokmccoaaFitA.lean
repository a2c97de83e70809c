/- Small contracts: what a word is, its address; requests; buffers; fit words. -/
import Derived.Test.YtafenndokmccoaaLook
import Derived.Test.YtafenndokmccoaaLayPart
namespace Go.Proofs.Ytafenndokmccoaa
open Go.RowKit
set_option linter.unusedVariables false
set_option linter.unusedSimpArgs false

theorem wlFull_calls (b k : Int) (w : World) :
    Calls Try.prog 131 #[.agg #[.int .u64 b, .int .i64 k]] w fun e w' => e = .returned (.bool (decide (k ≠ 0) && decide (k ≠ 4))) ∧ Below w.heap.size w w' := by
  have hb : ∀ (a b : Int), (a != b) = decide (a ≠ b) := fun a b => by by_cases h : a = b <;> simp [h]
  by_cases h0 : k = 0
  · subst h0
    go_enter Try.func131, Try.ntmps131
    go_wp2
    go_ret
    exact ⟨rfl, by (repeat (first | exact Below.refl _ _ | (with_reducible assumption) | refine Below.drew ?_ | refine Below.drewN' ?_ _ | refine Below.alloc ?_ (by first | omega | (simp; done) | (simp; omega)) _ | refine Below.setCell ?_ (by first | omega | (simp; done) | (simp; omega)) _ | refine Below.then ?_ hb9 (by first | omega | (simp; done) | (simp; omega)) | refine Below.then ?_ hb8 (by first | omega | (simp; done) | (simp; omega)) | refine Below.then ?_ hb7 (by first | omega | (simp; done) | (simp; omega)) | refine Below.then ?_ hb6 (by first | omega | (simp; done) | (simp; omega)) | refine Below.then ?_ hb5 (by first | omega | (simp; done) | (simp; omega)) | refine Below.then ?_ hb4 (by first | omega | (simp; done) | (simp; omega)) | refine Below.then ?_ hb3 (by first | omega | (simp; done) | (simp; omega)) | refine Below.then ?_ hb2 (by first | omega | (simp; done) | (simp; omega)) | refine Below.then ?_ hb1 (by first | omega | (simp; done) | (simp; omega))))⟩
  · have g0 : (k != 0) = true := bne_iff_ne.2 h0
    by_cases h4 : k = 4
    · subst h4
      go_enter Try.func131, Try.ntmps131
      go_wp2
      go_ret
      exact ⟨rfl, by (repeat (first | exact Below.refl _ _ | (with_reducible assumption) | refine Below.drew ?_ | refine Below.drewN' ?_ _ | refine Below.alloc ?_ (by first | omega | (simp; done) | (simp; omega)) _ | refine Below.setCell ?_ (by first | omega | (simp; done) | (simp; omega)) _ | refine Below.then ?_ hb9 (by first | omega | (simp; done) | (simp; omega)) | refine Below.then ?_ hb8 (by first | omega | (simp; done) | (simp; omega)) | refine Below.then ?_ hb7 (by first | omega | (simp; done) | (simp; omega)) | refine Below.then ?_ hb6 (by first | omega | (simp; done) | (simp; omega)) | refine Below.then ?_ hb5 (by first | omega | (simp; done) | (simp; omega)) | refine Below.then ?_ hb4 (by first | omega | (simp; done) | (simp; omega)) | refine Below.then ?_ hb3 (by first | omega | (simp; done) | (simp; omega)) | refine Below.then ?_ hb2 (by first | omega | (simp; done) | (simp; omega)) | refine Below.then ?_ hb1 (by first | omega | (simp; done) | (simp; omega))))⟩
    · have g4 : (k != 4) = true := bne_iff_ne.2 h4
      rw [show (decide (k ≠ 0) && decide (k ≠ 4)) = true by simp [h0, h4]]
      go_enter Try.func131, Try.ntmps131
      go_wp2
      go_ret
      exact ⟨by simp [go_sem, *], by (repeat (first | exact Below.refl _ _ | (with_reducible assumption) | refine Below.drew ?_ | refine Below.drewN' ?_ _ | refine Below.alloc ?_ (by first | omega | (simp; done) | (simp; omega)) _ | refine Below.setCell ?_ (by first | omega | (simp; done) | (simp; omega)) _ | refine Below.then ?_ hb9 (by first | omega | (simp; done) | (simp; omega)) | refine Below.then ?_ hb8 (by first | omega | (simp; done) | (simp; omega)) | refine Below.then ?_ hb7 (by first | omega | (simp; done) | (simp; omega)) | refine Below.then ?_ hb6 (by first | omega | (simp; done) | (simp; omega)) | refine Below.then ?_ hb5 (by first | omega | (simp; done) | (simp; omega)) | refine Below.then ?_ hb4 (by first | omega | (simp; done) | (simp; omega)) | refine Below.then ?_ hb3 (by first | omega | (simp; done) | (simp; omega)) | refine Below.then ?_ hb2 (by first | omega | (simp; done) | (simp; omega)) | refine Below.then ?_ hb1 (by first | omega | (simp; done) | (simp; omega))))⟩

theorem wlValue_calls (x : Int) (h0 : 0 ≤ x) (h1 : x < 18446744073709551616) (w : World) :
    Calls Try.prog 133 #[.agg #[.int .u64 (lookB x), .int .i64 (wdK x)]] w fun e w' => e = .returned (.int .i64 (wdV x)) ∧ Below w.heap.size w w' := by
  have hH := Lib.hid (fun W => wheld_calls x h0 h1 W)
  have hx : wEven x / 8 = x / 8 := by unfold wEven; omega
  by_cases h2 : wdK x = 2
  · have e1 : lookB x = x := by simp [lookB, h2]
    have e2 : wdV x = x / 8 := by unfold wdV; rw [if_pos h2, hx]
    have hw : IntKind.i64.wrap (x / 8) = x / 8 := IntWalk.i64_in _ (by omega)
    rw [h2, e1, e2]
    clear e1 e2 hx h2
    go_enter Try.func133, Try.ntmps133
    go_wp2_with fail
    refine (hH.out _).mono ?_; rintro e1 w1 ⟨rfl, rfl⟩
    go_wp2
    go_ret
    exact ⟨by simp [go_sem, *], by (repeat (first | exact Below.refl _ _ | (with_reducible assumption) | refine Below.drew ?_ | refine Below.drewN' ?_ _ | refine Below.alloc ?_ (by first | omega | (simp; done) | (simp; omega)) _ | refine Below.setCell ?_ (by first | omega | (simp; done) | (simp; omega)) _ | refine Below.then ?_ hb9 (by first | omega | (simp; done) | (simp; omega)) | refine Below.then ?_ hb8 (by first | omega | (simp; done) | (simp; omega)) | refine Below.then ?_ hb7 (by first | omega | (simp; done) | (simp; omega)) | refine Below.then ?_ hb6 (by first | omega | (simp; done) | (simp; omega)) | refine Below.then ?_ hb5 (by first | omega | (simp; done) | (simp; omega)) | refine Below.then ?_ hb4 (by first | omega | (simp; done) | (simp; omega)) | refine Below.then ?_ hb3 (by first | omega | (simp; done) | (simp; omega)) | refine Below.then ?_ hb2 (by first | omega | (simp; done) | (simp; omega)) | refine Below.then ?_ hb1 (by first | omega | (simp; done) | (simp; omega))))⟩
  · by_cases h3 : wdK x = 3
    · have e1 : lookB x = x := by simp [lookB, h3]
      have e2 : wdV x = x / 8 - 576460752303423488 := by unfold wdV; rw [if_neg h2, if_pos h3, hx]
      have hw : IntKind.i64.wrap (x / 8) = x / 8 := IntWalk.i64_in _ (by omega)
      have hw2 : IntKind.i64.wrap (x / 8 - 576460752303423488) = x / 8 - 576460752303423488 := IntWalk.i64_in _ (by omega)
      rw [h3, e1, e2]
      clear e1 e2 hx h2 h3
      go_enter Try.func133, Try.ntmps133
      go_wp2_with fail
      refine (hH.out _).mono ?_; rintro e1 w1 ⟨rfl, rfl⟩
      go_wp2
      go_ret
      exact ⟨by simp [go_sem, *], by (repeat (first | exact Below.refl _ _ | (with_reducible assumption) | refine Below.drew ?_ | refine Below.drewN' ?_ _ | refine Below.alloc ?_ (by first | omega | (simp; done) | (simp; omega)) _ | refine Below.setCell ?_ (by first | omega | (simp; done) | (simp; omega)) _ | refine Below.then ?_ hb9 (by first | omega | (simp; done) | (simp; omega)) | refine Below.then ?_ hb8 (by first | omega | (simp; done) | (simp; omega)) | refine Below.then ?_ hb7 (by first | omega | (simp; done) | (simp; omega)) | refine Below.then ?_ hb6 (by first | omega | (simp; done) | (simp; omega)) | refine Below.then ?_ hb5 (by first | omega | (simp; done) | (simp; omega)) | refine Below.then ?_ hb4 (by first | omega | (simp; done) | (simp; omega)) | refine Below.then ?_ hb3 (by first | omega | (simp; done) | (simp; omega)) | refine Below.then ?_ hb2 (by first | omega | (simp; done) | (simp; omega)) | refine Below.then ?_ hb1 (by first | omega | (simp; done) | (simp; omega))))⟩
    · have e2 : wdV x = 0 := by unfold wdV; rw [if_neg h2, if_neg h3]
      have g2 : (wdK x == 2) = false := beq_eq_false_iff_ne.2 h2
      have g3 : (wdK x == 3) = false := beq_eq_false_iff_ne.2 h3
      rw [e2]
      generalize lookB x = b
      generalize wdK x = k at g2 g3
      clear e2 hx h2 h3
      go_enter Try.func133, Try.ntmps133
      go_wp2
      go_ret
      exact ⟨rfl, by (repeat (first | exact Below.refl _ _ | (with_reducible assumption) | refine Below.drew ?_ | refine Below.drewN' ?_ _ | refine Below.alloc ?_ (by first | omega | (simp; done) | (simp; omega)) _ | refine Below.setCell ?_ (by first | omega | (simp; done) | (simp; omega)) _ | refine Below.then ?_ hb9 (by first | omega | (simp; done) | (simp; omega)) | refine Below.then ?_ hb8 (by first | omega | (simp; done) | (simp; omega)) | refine Below.then ?_ hb7 (by first | omega | (simp; done) | (simp; omega)) | refine Below.then ?_ hb6 (by first | omega | (simp; done) | (simp; omega)) | refine Below.then ?_ hb5 (by first | omega | (simp; done) | (simp; omega)) | refine Below.then ?_ hb4 (by first | omega | (simp; done) | (simp; omega)) | refine Below.then ?_ hb3 (by first | omega | (simp; done) | (simp; omega)) | refine Below.then ?_ hb2 (by first | omega | (simp; done) | (simp; omega)) | refine Below.then ?_ hb1 (by first | omega | (simp; done) | (simp; omega))))⟩

/-- what a word's address is, and whether it has one -/
def adrV (x : Int) : Int := if wdK x = 2 then wdV x else 0
def adrB (x : Int) : Bool := decide (wdK x = 2)
theorem wAddress_calls (x : Int) (h0 : 0 ≤ x) (h1 : x < 18446744073709551616) (w : World) :
    Calls Try.prog 119 #[.int .u64 x] w fun e w' => e = .returned (.tuple #[.int .i64 (adrV x), .bool (adrB x)]) ∧ Below w.heap.size w w' := by
  have hL := Lib.hid (fun W => look_calls x h0 h1 W)
  have hV := Lib.hid (fun W => wlValue_calls x h0 h1 W)
  by_cases h2 : wdK x = 2
  · have e1 : adrV x = wdV x := by unfold adrV; rw [if_pos h2]
    have e2 : adrB x = true := by unfold adrB; rw [decide_eq_true h2]
    rw [e1, e2]
    rw [h2] at hL hV
    generalize lookB x = b at hL hV
    generalize wdV x = v at hV
    clear e1 e2 h2
    go_enter Try.func119, Try.ntmps119
    go_wp2_with fail
    refine (hL.out _).mono ?_; rintro e1 w1 ⟨rfl, hb1⟩; have hz1 := hb1.size; (try simp at hz1)
    go_wp2_with fail
    refine (hV.out _).mono ?_; rintro e2 w2 ⟨rfl, hb2⟩; have hz2 := hb2.size; (try simp at hz2)
    go_wp2
    go_ret2
    exact ⟨rfl, by (repeat (first | exact Below.refl _ _ | (with_reducible assumption) | refine Below.drew ?_ | refine Below.drewN' ?_ _ | refine Below.alloc ?_ (by first | omega | (simp; done) | (simp; omega)) _ | refine Below.setCell ?_ (by first | omega | (simp; done) | (simp; omega)) _ | refine Below.then ?_ hb9 (by first | omega | (simp; done) | (simp; omega)) | refine Below.then ?_ hb8 (by first | omega | (simp; done) | (simp; omega)) | refine Below.then ?_ hb7 (by first | omega | (simp; done) | (simp; omega)) | refine Below.then ?_ hb6 (by first | omega | (simp; done) | (simp; omega)) | refine Below.then ?_ hb5 (by first | omega | (simp; done) | (simp; omega)) | refine Below.then ?_ hb4 (by first | omega | (simp; done) | (simp; omega)) | refine Below.then ?_ hb3 (by first | omega | (simp; done) | (simp; omega)) | refine Below.then ?_ hb2 (by first | omega | (simp; done) | (simp; omega)) | refine Below.then ?_ hb1 (by first | omega | (simp; done) | (simp; omega))))⟩
  · have e1 : adrV x = 0 := by unfold adrV; rw [if_neg h2]
    have e2 : adrB x = false := by unfold adrB; rw [decide_eq_false h2]
    have g2 : (wdK x != 2) = true := bne_iff_ne.2 h2
    rw [e1, e2]
    generalize lookB x = b at hL hV
    generalize wdK x = k at hL hV g2
    clear e1 e2 h2
    go_enter Try.func119, Try.ntmps119
    go_wp2_with fail
    refine (hL.out _).mono ?_; rintro e1 w1 ⟨rfl, hb1⟩; have hz1 := hb1.size; (try simp at hz1)
    go_wp2
    go_ret2
    exact ⟨rfl, by (repeat (first | exact Below.refl _ _ | (with_reducible assumption) | refine Below.drew ?_ | refine Below.drewN' ?_ _ | refine Below.alloc ?_ (by first | omega | (simp; done) | (simp; omega)) _ | refine Below.setCell ?_ (by first | omega | (simp; done) | (simp; omega)) _ | refine Below.then ?_ hb9 (by first | omega | (simp; done) | (simp; omega)) | refine Below.then ?_ hb8 (by first | omega | (simp; done) | (simp; omega)) | refine Below.then ?_ hb7 (by first | omega | (simp; done) | (simp; omega)) | refine Below.then ?_ hb6 (by first | omega | (simp; done) | (simp; omega)) | refine Below.then ?_ hb5 (by first | omega | (simp; done) | (simp; omega)) | refine Below.then ?_ hb4 (by first | omega | (simp; done) | (simp; omega)) | refine Below.then ?_ hb3 (by first | omega | (simp; done) | (simp; omega)) | refine Below.then ?_ hb2 (by first | omega | (simp; done) | (simp; omega)) | refine Below.then ?_ hb1 (by first | omega | (simp; done) | (simp; omega))))⟩

theorem pWithin_calls (hi n : Int) (B : Nat) (w : World) (hB : B < w.heap.size) (hc : w.cell? ⟨B, 0, none⟩ = some (.int .i64 n)) :
    Calls Try.prog 113 #[.int .i64 hi, .slice (some ⟨B, 0, none⟩) 1 1] w fun e w' => e = .returned (.bool (decide (0 ≤ n ∧ n ≤ hi))) ∧ Below w.heap.size w w' := by
  obtain ⟨r, hr⟩ : ∃ r, decide (0 ≤ n ∧ n ≤ hi) = r := ⟨_, rfl⟩
  rw [hr]
  have HR := Lib.hid hr
  clear hr
  go_enter Try.func113, Try.ntmps113
  go_wp2
  go_loopw [6, 9] (fun _ i wr => ∃ k : Nat, k ≤ 1 ∧ i = .int .i64 k ∧ Below w.heap.size w wr ∧ (k = 1 → 0 ≤ n ∧ n ≤ hi)) (fun _ i _ => 1 - (intOf i).toNat)
  case atStart => exact ⟨0, by omega, rfl, Below.refl _ _, fun h => by omega⟩
  case round =>
    obtain ⟨k, hk, rfl, hBe, hin⟩ := hrel
    have hzB := hBe.size
    by_cases hlt : k < 1
    · obtain rfl : k = 0 := by omega
      have hcx := (hBe.cell (p := ⟨B, 0, none⟩) hB).trans hc
      clear hin
      by_cases h1 : n < 0
      · go_wp2
        go_ret
        exact ⟨by rw [show r = false from by rw [← HR.out]; simp; omega]; rfl, hBe⟩
      · by_cases h2 : hi < n
        · go_wp2
          go_ret
          exact ⟨by rw [show r = false from by rw [← HR.out]; simp; omega]; rfl, hBe⟩
        · go_wp2
          go_roundw
          case rel => exact ⟨1, by omega, rfl, hBe, fun _ => ⟨by omega, by omega⟩⟩
          case measure => simp [intOf]
    · obtain rfl : k = 1 := by omega
      have HI := Lib.hid (hin rfl)
      clear hin
      go_wp2
      go_ret
      exact ⟨by rw [show r = true from by rw [← HR.out]; simpa using HI.out]; rfl, hBe⟩

/-- may a request be? -/
def reqB (ep ph : Int) : Bool := decide (0 ≤ ep ∧ ep ≤ 1099511627775) && decide (0 ≤ ph ∧ ph ≤ 6)
theorem pRequest_calls (ep ph : Int) (w : World) :
    Calls Try.prog 92 #[.agg #[.int .i64 ep, .int .i64 ph]] w fun e w' => (∃ v, e = .returned (.tuple #[.int .u64 v, .int .i64 (if reqB ep ph = true then 0 else 2)])) ∧ Below w.heap.size w w' := by
  have H1 := Lib.hid (fun B W h hc => pWithin_calls 1099511627775 ep B W h hc)
  have H2 := Lib.hid (fun B W h hc => pWithin_calls 6 ph B W h hc)
  by_cases h1 : 0 ≤ ep ∧ ep ≤ 1099511627775
  · rw [decide_eq_true h1] at H1
    by_cases h2 : 0 ≤ ph ∧ ph ≤ 6
    · rw [decide_eq_true h2] at H2
      have e1 : reqB ep ph = true := by simp [reqB, h1, h2]
      rw [if_pos e1]
      clear e1
      go_enter Try.func92, Try.ntmps92
      go_wp2_with fail
      refine wp_scope_once 0 rfl ?_
      go_wp2_with fail
      refine (H1.out _ _ (by simp; try omega) (by simp)).mono ?_; rintro e1 w1 ⟨rfl, hb1⟩; obtain ⟨hc1, hf1⟩ := bcell hb1; have hz1 := hb1.size; (try simp at hz1)
      have q0 := hc1 w.heap.size 0 (by first | omega | (simp; done) | (simp; omega)); simp [go_sem] at q0
      have q1 := hc1 w.heap.size 1 (by first | omega | (simp; done) | (simp; omega)); simp [go_sem] at q1
      go_wp2_with fail
      refine (H2.out _ _ (by simp; try omega) (by simp)).mono ?_; rintro e2 w2 ⟨rfl, hb2⟩; obtain ⟨hc2, hf2⟩ := bcell hb2; have hz2 := hb2.size; (try simp at hz2)
      replace q0 := hold_cell (w2 := w2) q0 (by (repeat (first | exact Below.refl _ _ | (with_reducible assumption) | refine Below.drew ?_ | refine Below.drewN' ?_ _ | refine Below.alloc ?_ (by first | omega | (simp; done) | (simp; omega)) _ | refine Below.setCell ?_ (by first | omega | (simp; done) | (simp; omega)) _ | refine Below.then ?_ hb9 (by first | omega | (simp; done) | (simp; omega)) | refine Below.then ?_ hb8 (by first | omega | (simp; done) | (simp; omega)) | refine Below.then ?_ hb7 (by first | omega | (simp; done) | (simp; omega)) | refine Below.then ?_ hb6 (by first | omega | (simp; done) | (simp; omega)) | refine Below.then ?_ hb5 (by first | omega | (simp; done) | (simp; omega)) | refine Below.then ?_ hb4 (by first | omega | (simp; done) | (simp; omega)) | refine Below.then ?_ hb3 (by first | omega | (simp; done) | (simp; omega)) | refine Below.then ?_ hb2 (by first | omega | (simp; done) | (simp; omega)) | refine Below.then ?_ hb1 (by first | omega | (simp; done) | (simp; omega))))) (by first | omega | (simp; done) | (simp; omega))
      replace q1 := hold_cell (w2 := w2) q1 (by (repeat (first | exact Below.refl _ _ | (with_reducible assumption) | refine Below.drew ?_ | refine Below.drewN' ?_ _ | refine Below.alloc ?_ (by first | omega | (simp; done) | (simp; omega)) _ | refine Below.setCell ?_ (by first | omega | (simp; done) | (simp; omega)) _ | refine Below.then ?_ hb9 (by first | omega | (simp; done) | (simp; omega)) | refine Below.then ?_ hb8 (by first | omega | (simp; done) | (simp; omega)) | refine Below.then ?_ hb7 (by first | omega | (simp; done) | (simp; omega)) | refine Below.then ?_ hb6 (by first | omega | (simp; done) | (simp; omega)) | refine Below.then ?_ hb5 (by first | omega | (simp; done) | (simp; omega)) | refine Below.then ?_ hb4 (by first | omega | (simp; done) | (simp; omega)) | refine Below.then ?_ hb3 (by first | omega | (simp; done) | (simp; omega)) | refine Below.then ?_ hb2 (by first | omega | (simp; done) | (simp; omega)) | refine Below.then ?_ hb1 (by first | omega | (simp; done) | (simp; omega))))) (by first | omega | (simp; done) | (simp; omega))
      go_wp2
      simp only [Exit.jump]
      go_ret2
      exact ⟨⟨_, rfl⟩, by (repeat (first | exact Below.refl _ _ | (with_reducible assumption) | refine Below.drew ?_ | refine Below.drewN' ?_ _ | refine Below.alloc ?_ (by first | omega | (simp; done) | (simp; omega)) _ | refine Below.setCell ?_ (by first | omega | (simp; done) | (simp; omega)) _ | refine Below.then ?_ hb9 (by first | omega | (simp; done) | (simp; omega)) | refine Below.then ?_ hb8 (by first | omega | (simp; done) | (simp; omega)) | refine Below.then ?_ hb7 (by first | omega | (simp; done) | (simp; omega)) | refine Below.then ?_ hb6 (by first | omega | (simp; done) | (simp; omega)) | refine Below.then ?_ hb5 (by first | omega | (simp; done) | (simp; omega)) | refine Below.then ?_ hb4 (by first | omega | (simp; done) | (simp; omega)) | refine Below.then ?_ hb3 (by first | omega | (simp; done) | (simp; omega)) | refine Below.then ?_ hb2 (by first | omega | (simp; done) | (simp; omega)) | refine Below.then ?_ hb1 (by first | omega | (simp; done) | (simp; omega))))⟩
    · rw [decide_eq_false h2] at H2
      have e1 : ¬ reqB ep ph = true := by simp [reqB, h2]
      rw [if_neg e1]
      clear e1
      go_enter Try.func92, Try.ntmps92
      go_wp2_with fail
      refine wp_scope_once 0 rfl ?_
      go_wp2_with fail
      refine (H1.out _ _ (by simp; try omega) (by simp)).mono ?_; rintro e1 w1 ⟨rfl, hb1⟩; obtain ⟨hc1, hf1⟩ := bcell hb1; have hz1 := hb1.size; (try simp at hz1)
      have q1 := hc1 w.heap.size 1 (by first | omega | (simp; done) | (simp; omega)); simp [go_sem] at q1
      go_wp2_with fail
      refine (H2.out _ _ (by simp; try omega) (by simp)).mono ?_; rintro e2 w2 ⟨rfl, hb2⟩; obtain ⟨hc2, hf2⟩ := bcell hb2; have hz2 := hb2.size; (try simp at hz2)
      go_wp2
      go_step3
      refine ⟨rfl, ?_⟩
      go_wp2
      rw [Exit.noGoto_ret]
      go_ret2
      exact ⟨⟨_, rfl⟩, by (repeat (first | exact Below.refl _ _ | (with_reducible assumption) | refine Below.drew ?_ | refine Below.drewN' ?_ _ | refine Below.alloc ?_ (by first | omega | (simp; done) | (simp; omega)) _ | refine Below.setCell ?_ (by first | omega | (simp; done) | (simp; omega)) _ | refine Below.then ?_ hb9 (by first | omega | (simp; done) | (simp; omega)) | refine Below.then ?_ hb8 (by first | omega | (simp; done) | (simp; omega)) | refine Below.then ?_ hb7 (by first | omega | (simp; done) | (simp; omega)) | refine Below.then ?_ hb6 (by first | omega | (simp; done) | (simp; omega)) | refine Below.then ?_ hb5 (by first | omega | (simp; done) | (simp; omega)) | refine Below.then ?_ hb4 (by first | omega | (simp; done) | (simp; omega)) | refine Below.then ?_ hb3 (by first | omega | (simp; done) | (simp; omega)) | refine Below.then ?_ hb2 (by first | omega | (simp; done) | (simp; omega)) | refine Below.then ?_ hb1 (by first | omega | (simp; done) | (simp; omega))))⟩
  · rw [decide_eq_false h1] at H1
    have e1 : ¬ reqB ep ph = true := by simp [reqB, h1]
    rw [if_neg e1]
    clear e1
    go_enter Try.func92, Try.ntmps92
    go_wp2_with fail
    refine wp_scope_once 0 rfl ?_
    go_wp2_with fail
    refine (H1.out _ _ (by simp; try omega) (by simp)).mono ?_; rintro e1 w1 ⟨rfl, hb1⟩; obtain ⟨hc1, hf1⟩ := bcell hb1; have hz1 := hb1.size; (try simp at hz1)
    go_wp2
    go_step3
    refine ⟨rfl, ?_⟩
    go_wp2
    rw [Exit.noGoto_ret]
    go_ret2
    exact ⟨⟨_, rfl⟩, by (repeat (first | exact Below.refl _ _ | (with_reducible assumption) | refine Below.drew ?_ | refine Below.drewN' ?_ _ | refine Below.alloc ?_ (by first | omega | (simp; done) | (simp; omega)) _ | refine Below.setCell ?_ (by first | omega | (simp; done) | (simp; omega)) _ | refine Below.then ?_ hb9 (by first | omega | (simp; done) | (simp; omega)) | refine Below.then ?_ hb8 (by first | omega | (simp; done) | (simp; omega)) | refine Below.then ?_ hb7 (by first | omega | (simp; done) | (simp; omega)) | refine Below.then ?_ hb6 (by first | omega | (simp; done) | (simp; omega)) | refine Below.then ?_ hb5 (by first | omega | (simp; done) | (simp; omega)) | refine Below.then ?_ hb4 (by first | omega | (simp; done) | (simp; omega)) | refine Below.then ?_ hb3 (by first | omega | (simp; done) | (simp; omega)) | refine Below.then ?_ hb2 (by first | omega | (simp; done) | (simp; omega)) | refine Below.then ?_ hb1 (by first | omega | (simp; done) | (simp; omega))))⟩
end Go.Proofs.Ytafenndokmccoaa
