/- The layer 'pack': frontiers' words; what the document says of them. -/
import Derived.Test.YtafenndokmccoaaKit
import Derived.Test.YtafenndokmccoaaOnly
namespace Go.Proofs.Ytafenndokmccoaa
open Go.RowKit
set_option linter.unusedVariables false
set_option linter.unusedSimpArgs false

theorem hold_fzp {w w2 : World} {p : Addr} {b : Bool} (q : w.frozen? p = b) (h : Below w.heap.size w w2) (hp : p.block < w.heap.size) : w2.frozen? p = b := (h.frozen hp).trans q
/-- may a frontier be? -/
def frB (s l h o : Int) : Bool := decide (0 ≤ s ∧ s ≤ 1) && decide (0 ≤ l ∧ l ≤ 4096) && decide (0 ≤ h ∧ h ≤ 4096) && decide (0 ≤ o ∧ o ≤ 4096) && decide (l + o ≤ h)
theorem frB_ok {s l h o : Int} (x : frB s l h o = true) : (0 ≤ s ∧ s ≤ 1) ∧ (0 ≤ l ∧ l ≤ 4096) ∧ (0 ≤ h ∧ h ≤ 4096) ∧ (0 ≤ o ∧ o ≤ 4096) ∧ l + o ≤ h := by
  simp only [frB, Bool.and_eq_true, decide_eq_true_eq] at x
  exact ⟨x.1.1.1.1, x.1.1.1.2, x.1.1.2, x.1.2, x.2⟩
theorem frB_mk {s l h o : Int} (a : 0 ≤ s ∧ s ≤ 1) (b : 0 ≤ l ∧ l ≤ 4096) (c : 0 ≤ h ∧ h ≤ 4096) (d : 0 ≤ o ∧ o ≤ 4096) (e : l + o ≤ h) : frB s l h o = true := by
  simp only [frB, Bool.and_eq_true, decide_eq_true_eq]
  exact ⟨⟨⟨⟨a, b⟩, c⟩, d⟩, e⟩
theorem frB_no {s l h o : Int} (x : ¬ frB s l h o = true) : ¬ ((0 ≤ s ∧ s ≤ 1) ∧ (0 ≤ l ∧ l ≤ 4096) ∧ (0 ≤ h ∧ h ≤ 4096) ∧ (0 ≤ o ∧ o ≤ 4096) ∧ l + o ≤ h) := fun ⟨a, b, c, d, e⟩ => x (frB_mk a b c d e)
/-- a frontier's word -/
def frV (s l h o : Int) : Int := s + 2 * (l + 8192 * (h + 8192 * o))
def frW (s l h o : Int) : Int := if frB s l h o = true then frV s l h o else 0
def frE (s l h o : Int) : Int := if frB s l h o = true then 0 else 2
/-- a word's frontier -/
def fwB (w : Int) : Bool := decide (w / 2 < 549755813888) && frB (w % 2) (w / 2 % 8192) (w / 2 / 8192 % 8192) (w / 2 / 67108864)
def fwS (w : Int) : Int := if fwB w = true then w % 2 else 0
def fwL (w : Int) : Int := if fwB w = true then w / 2 % 8192 else 0
def fwH (w : Int) : Int := if fwB w = true then w / 2 / 8192 % 8192 else 0
def fwO (w : Int) : Int := if fwB w = true then w / 2 / 67108864 else 0
def fwR (w : Int) : Int := if fwB w = true then 0 else 2
theorem fw_right (w : Int) : frB (fwS w) (fwL w) (fwH w) (fwO w) = true := by
  unfold fwS fwL fwH fwO
  by_cases h : fwB w = true
  · simp only [h, if_true]
    unfold fwB at h
    rw [Bool.and_eq_true] at h
    exact h.2
  · simp only [h]
    rfl
theorem frV_fw {s l h o : Int} (x : frB s l h o = true) : fwB (frV s l h o) = true ∧ fwS (frV s l h o) = s ∧ fwL (frV s l h o) = l ∧ fwH (frV s l h o) = h ∧ fwO (frV s l h o) = o := by
  obtain ⟨a, b, c, d, e⟩ := frB_ok x
  have e0 : frV s l h o % 2 = s := by unfold frV; omega
  have e1 : frV s l h o / 2 = l + 8192 * (h + 8192 * o) := by unfold frV; omega
  have e2 : frV s l h o / 2 % 8192 = l := by rw [e1]; omega
  have e3 : frV s l h o / 2 / 8192 % 8192 = h := by rw [e1]; omega
  have e4 : frV s l h o / 2 / 67108864 = o := by rw [e1]; omega
  have hb : fwB (frV s l h o) = true := by
    unfold fwB
    rw [e0, e2, e3, e4, x, Bool.and_true, decide_eq_true_eq, e1]
    omega
  unfold fwS fwL fwH fwO
  simp only [hb, if_true]
  exact ⟨trivial, e0, e2, e3, e4⟩
theorem frV_range {s l h o : Int} (x : frB s l h o = true) : 0 ≤ frV s l h o ∧ frV s l h o < 18446744073709551616 := by
  obtain ⟨a, b, c, d, e⟩ := frB_ok x
  unfold frV
  omega

/-- are the numbers of a list within a bound? -/
def pinB (hi : Int) (l : List Int) : Bool := l.all fun n => decide (0 ≤ n ∧ n ≤ hi)
theorem pWithinL_calls (hi : Int) (l : List Int) (B : Nat) (w : World) (hB : B < w.heap.size) (hc : ∀ i (h : i < l.length), w.cell? ⟨B, i, none⟩ = some (.int .i64 l[i])) (hn : l.length ≤ 10) :
    Calls Try.prog 113 #[.int .i64 hi, .slice (some ⟨B, 0, none⟩) l.length l.length] w fun e w' => e = .returned (.bool (pinB hi l)) ∧ Below w.heap.size w w' := by
  obtain ⟨r, hr⟩ : ∃ r, pinB hi l = r := ⟨_, rfl⟩
  rw [hr]
  have HR := Lib.hid hr
  have HC := Lib.hid hc
  clear hr hc
  go_enter Try.func113, Try.ntmps113
  go_wp2
  go_loopw [6, 9] (fun _ i wr => ∃ k : Nat, k ≤ l.length ∧ i = .int .i64 k ∧ Below w.heap.size w wr ∧ pinB hi (l.take k) = true) (fun _ i _ => l.length - (intOf i).toNat)
  case atStart => exact ⟨0, by omega, rfl, Below.refl _ _, by simp [pinB]⟩
  case round =>
    obtain ⟨k, hk, rfl, hBe, hin⟩ := hrel
    have hzB := hBe.size
    by_cases hlt : k < l.length
    · have hcx := (hBe.cell (p := ⟨B, k, none⟩) hB).trans (HC.out k hlt)
      have hkl : (k : Int) < (l.length : Int) := by omega
      have HI := Lib.hid hin
      have hmem : l[k] ∈ l := List.getElem_mem _
      have hbad : ∀ x, l[k] = x → ¬ (0 ≤ x ∧ x ≤ hi) → r = false := fun x hx h => by
        rw [← HR.out]
        unfold pinB
        rw [List.all_eq_false]
        exact ⟨l[k], hmem, by rw [hx]; simpa using h⟩
      have hgood : ∀ x, l[k] = x → 0 ≤ x → x ≤ hi → pinB hi (l.take (k + 1)) = true := fun x hx h1 h2 => by
        have := HI.out
        unfold pinB at this ⊢
        rw [List.take_succ_eq_append_getElem hlt, List.all_append, this, hx]
        simp [h1, h2]
      generalize l[k] = x at hcx hmem hbad hgood
      have hbad := Lib.hid (hbad x rfl)
      have hgood := Lib.hid (hgood x rfl)
      clear hin hmem
      by_cases h1 : x < 0
      · go_wp2
        go_ret
        exact ⟨by have e := hbad.out (by omega); subst e; rfl, hBe⟩
      · by_cases h2 : hi < x
        · go_wp2
          go_ret
          exact ⟨by have e := hbad.out (by omega); subst e; rfl, hBe⟩
        · go_wp2
          go_roundw
          case rel => exact ⟨k + 1, by omega, by go_num, hBe, hgood.out (by omega) (by omega)⟩
          case measure => simp [intOf]; omega
    · obtain rfl : k = l.length := by omega
      have HI := Lib.hid hin
      clear hin
      go_wp2
      go_ret
      exact ⟨by rw [show r = true from by rw [← HR.out, ← HI.out, List.take_length]]; rfl, hBe⟩

set_option maxHeartbeats 800000 in
theorem pRight_calls (s l h o : Int) (w : World) : Calls Try.prog 172 #[.agg #[.int .i64 s, .int .i64 l, .int .i64 h, .int .i64 o]] w fun e w' => e = .returned (.bool (frB s l h o)) ∧ Below w.heap.size w w' := by
  have H1 := fun B W h h' => pWithinL_calls 1 [s] B W h h' (by simp)
  have H2 := fun B W h' h'' => pWithinL_calls 4096 [l, h, o] B W h' h'' (by simp)
  have e1 : pinB 1 [s] = decide (0 ≤ s ∧ s ≤ 1) := by simp [pinB]
  have e2 : pinB 4096 [l, h, o] = (decide (0 ≤ l ∧ l ≤ 4096) && (decide (0 ≤ h ∧ h ≤ 4096) && decide (0 ≤ o ∧ o ≤ 4096))) := by simp [pinB]
  have e3 : frB s l h o = (pinB 1 [s] && pinB 4096 [l, h, o] && decide (l + o ≤ h)) := by rw [e1, e2]; unfold frB; simp only [Bool.and_assoc]
  rw [e3]
  have hb : pinB 4096 [l, h, o] = true → (0 ≤ l ∧ l ≤ 4096) ∧ (0 ≤ h ∧ h ≤ 4096) ∧ 0 ≤ o ∧ o ≤ 4096 := by
    rw [e2]
    simp only [Bool.and_eq_true, decide_eq_true_eq]
    exact id
  clear e1 e2 e3
  generalize pinB 1 [s] = b1 at H1
  generalize pinB 4096 [l, h, o] = b2 at H2 hb
  simp only [List.length_cons, List.length_nil, Nat.zero_add, Nat.reduceAdd] at H1 H2
  have H1 := Lib.hid H1
  have H2 := Lib.hid H2
  have c1 : ∀ (W : World) (B : Nat), W.cell? ⟨B, 0, none⟩ = some (.int .i64 s) → ∀ i (h : i < 1), W.cell? ⟨B, i, none⟩ = some (.int .i64 [s][i]) := by
    intro W B q0 i hi
    obtain rfl : i = 0 := by omega
    exact q0
  have c2 : ∀ (W : World) (B : Nat), W.cell? ⟨B, 0, none⟩ = some (.int .i64 l) → W.cell? ⟨B, 1, none⟩ = some (.int .i64 h) → W.cell? ⟨B, 2, none⟩ = some (.int .i64 o) → ∀ i (h' : i < 3), W.cell? ⟨B, i, none⟩ = some (.int .i64 [l, h, o][i]) := by
    intro W B q0 q1 q2 i hi
    obtain rfl | rfl | rfl : i = 0 ∨ i = 1 ∨ i = 2 := by omega
    · exact q0
    · exact q1
    · exact q2
  have HC1 := Lib.hid c1
  have HC2 := Lib.hid c2
  have HB := Lib.hid hb
  clear hb c1 c2
  cases b1 with
  | false =>
    simp only [Bool.false_and]
    go_enter Try.func172, Try.ntmps172
    go_wp2_with fail
    refine (H1.out _ _ (by simp) (HC1.out _ _ (by simp))).mono ?_; rintro e1 w1 ⟨rfl, hb1⟩
    obtain ⟨hc1, hf1⟩ := bcell hb1; have hz1 := hb1.size; (try simp at hz1)
    go_wp2
    go_ret
    exact ⟨rfl, by (repeat (first | exact Below.refl _ _ | (with_reducible assumption) | refine Below.drew ?_ | refine Below.drewN' ?_ _ | refine Below.alloc ?_ (by first | omega | (simp; done) | (simp; omega)) _ | refine Below.setCell ?_ (by first | omega | (simp; done) | (simp; omega)) _ | refine Below.then ?_ hb9 (by first | omega | (simp; done) | (simp; omega)) | refine Below.then ?_ hb8 (by first | omega | (simp; done) | (simp; omega)) | refine Below.then ?_ hb7 (by first | omega | (simp; done) | (simp; omega)) | refine Below.then ?_ hb6 (by first | omega | (simp; done) | (simp; omega)) | refine Below.then ?_ hb5 (by first | omega | (simp; done) | (simp; omega)) | refine Below.then ?_ hb4 (by first | omega | (simp; done) | (simp; omega)) | refine Below.then ?_ hb3 (by first | omega | (simp; done) | (simp; omega)) | refine Below.then ?_ hb2 (by first | omega | (simp; done) | (simp; omega)) | refine Below.then ?_ hb1 (by first | omega | (simp; done) | (simp; omega))))⟩
  | true =>
    simp only [Bool.true_and]
    cases b2 with
    | false =>
      simp only [Bool.false_and]
      go_enter Try.func172, Try.ntmps172
      go_wp2_with fail
      refine (H1.out _ _ (by simp) (HC1.out _ _ (by simp))).mono ?_; rintro e1 w1 ⟨rfl, hb1⟩
      obtain ⟨hc1, hf1⟩ := bcell hb1; have hz1 := hb1.size; (try simp at hz1)
      have q1 := hc1 w.heap.size 1 (by first | omega | (simp; done) | (simp; omega)); simp [go_sem] at q1
      have q2 := hc1 w.heap.size 2 (by first | omega | (simp; done) | (simp; omega)); simp [go_sem] at q2
      have q3 := hc1 w.heap.size 3 (by first | omega | (simp; done) | (simp; omega)); simp [go_sem] at q3
      go_wp2_with fail
      refine (H2.out _ _ (by simp) (HC2.out _ _ (by simp) (by simp) (by simp))).mono ?_; rintro e2 w2 ⟨rfl, hb2⟩
      obtain ⟨hc2, hf2⟩ := bcell hb2; have hz2 := hb2.size; (try simp at hz2)
      go_wp2
      go_ret
      exact ⟨rfl, by (repeat (first | exact Below.refl _ _ | (with_reducible assumption) | refine Below.drew ?_ | refine Below.drewN' ?_ _ | refine Below.alloc ?_ (by first | omega | (simp; done) | (simp; omega)) _ | refine Below.setCell ?_ (by first | omega | (simp; done) | (simp; omega)) _ | refine Below.then ?_ hb9 (by first | omega | (simp; done) | (simp; omega)) | refine Below.then ?_ hb8 (by first | omega | (simp; done) | (simp; omega)) | refine Below.then ?_ hb7 (by first | omega | (simp; done) | (simp; omega)) | refine Below.then ?_ hb6 (by first | omega | (simp; done) | (simp; omega)) | refine Below.then ?_ hb5 (by first | omega | (simp; done) | (simp; omega)) | refine Below.then ?_ hb4 (by first | omega | (simp; done) | (simp; omega)) | refine Below.then ?_ hb3 (by first | omega | (simp; done) | (simp; omega)) | refine Below.then ?_ hb2 (by first | omega | (simp; done) | (simp; omega)) | refine Below.then ?_ hb1 (by first | omega | (simp; done) | (simp; omega))))⟩
    | true =>
      obtain ⟨b1, b2, b3⟩ := HB.out rfl
      simp only [Bool.true_and]
      go_enter Try.func172, Try.ntmps172
      go_wp2_with fail
      refine (H1.out _ _ (by simp) (HC1.out _ _ (by simp))).mono ?_; rintro e1 w1 ⟨rfl, hb1⟩
      obtain ⟨hc1, hf1⟩ := bcell hb1; have hz1 := hb1.size; (try simp at hz1)
      have q1 := hc1 w.heap.size 1 (by first | omega | (simp; done) | (simp; omega)); simp [go_sem] at q1
      have q2 := hc1 w.heap.size 2 (by first | omega | (simp; done) | (simp; omega)); simp [go_sem] at q2
      have q3 := hc1 w.heap.size 3 (by first | omega | (simp; done) | (simp; omega)); simp [go_sem] at q3
      go_wp2_with fail
      refine (H2.out _ _ (by simp) (HC2.out _ _ (by simp) (by simp) (by simp))).mono ?_; rintro e2 w2 ⟨rfl, hb2⟩
      obtain ⟨hc2, hf2⟩ := bcell hb2; have hz2 := hb2.size; (try simp at hz2)
      replace q1 := hold_cell (w2 := w2) q1 (by (repeat (first | exact Below.refl _ _ | (with_reducible assumption) | refine Below.drew ?_ | refine Below.drewN' ?_ _ | refine Below.alloc ?_ (by first | omega | (simp; done) | (simp; omega)) _ | refine Below.setCell ?_ (by first | omega | (simp; done) | (simp; omega)) _ | refine Below.then ?_ hb9 (by first | omega | (simp; done) | (simp; omega)) | refine Below.then ?_ hb8 (by first | omega | (simp; done) | (simp; omega)) | refine Below.then ?_ hb7 (by first | omega | (simp; done) | (simp; omega)) | refine Below.then ?_ hb6 (by first | omega | (simp; done) | (simp; omega)) | refine Below.then ?_ hb5 (by first | omega | (simp; done) | (simp; omega)) | refine Below.then ?_ hb4 (by first | omega | (simp; done) | (simp; omega)) | refine Below.then ?_ hb3 (by first | omega | (simp; done) | (simp; omega)) | refine Below.then ?_ hb2 (by first | omega | (simp; done) | (simp; omega)) | refine Below.then ?_ hb1 (by first | omega | (simp; done) | (simp; omega))))) (by first | omega | (simp; done) | (simp; omega))
      replace q2 := hold_cell (w2 := w2) q2 (by (repeat (first | exact Below.refl _ _ | (with_reducible assumption) | refine Below.drew ?_ | refine Below.drewN' ?_ _ | refine Below.alloc ?_ (by first | omega | (simp; done) | (simp; omega)) _ | refine Below.setCell ?_ (by first | omega | (simp; done) | (simp; omega)) _ | refine Below.then ?_ hb9 (by first | omega | (simp; done) | (simp; omega)) | refine Below.then ?_ hb8 (by first | omega | (simp; done) | (simp; omega)) | refine Below.then ?_ hb7 (by first | omega | (simp; done) | (simp; omega)) | refine Below.then ?_ hb6 (by first | omega | (simp; done) | (simp; omega)) | refine Below.then ?_ hb5 (by first | omega | (simp; done) | (simp; omega)) | refine Below.then ?_ hb4 (by first | omega | (simp; done) | (simp; omega)) | refine Below.then ?_ hb3 (by first | omega | (simp; done) | (simp; omega)) | refine Below.then ?_ hb2 (by first | omega | (simp; done) | (simp; omega)) | refine Below.then ?_ hb1 (by first | omega | (simp; done) | (simp; omega))))) (by first | omega | (simp; done) | (simp; omega))
      replace q3 := hold_cell (w2 := w2) q3 (by (repeat (first | exact Below.refl _ _ | (with_reducible assumption) | refine Below.drew ?_ | refine Below.drewN' ?_ _ | refine Below.alloc ?_ (by first | omega | (simp; done) | (simp; omega)) _ | refine Below.setCell ?_ (by first | omega | (simp; done) | (simp; omega)) _ | refine Below.then ?_ hb9 (by first | omega | (simp; done) | (simp; omega)) | refine Below.then ?_ hb8 (by first | omega | (simp; done) | (simp; omega)) | refine Below.then ?_ hb7 (by first | omega | (simp; done) | (simp; omega)) | refine Below.then ?_ hb6 (by first | omega | (simp; done) | (simp; omega)) | refine Below.then ?_ hb5 (by first | omega | (simp; done) | (simp; omega)) | refine Below.then ?_ hb4 (by first | omega | (simp; done) | (simp; omega)) | refine Below.then ?_ hb3 (by first | omega | (simp; done) | (simp; omega)) | refine Below.then ?_ hb2 (by first | omega | (simp; done) | (simp; omega)) | refine Below.then ?_ hb1 (by first | omega | (simp; done) | (simp; omega))))) (by first | omega | (simp; done) | (simp; omega))
      go_wp2
      go_ret
      exact ⟨by simp, by (repeat (first | exact Below.refl _ _ | (with_reducible assumption) | refine Below.drew ?_ | refine Below.drewN' ?_ _ | refine Below.alloc ?_ (by first | omega | (simp; done) | (simp; omega)) _ | refine Below.setCell ?_ (by first | omega | (simp; done) | (simp; omega)) _ | refine Below.then ?_ hb9 (by first | omega | (simp; done) | (simp; omega)) | refine Below.then ?_ hb8 (by first | omega | (simp; done) | (simp; omega)) | refine Below.then ?_ hb7 (by first | omega | (simp; done) | (simp; omega)) | refine Below.then ?_ hb6 (by first | omega | (simp; done) | (simp; omega)) | refine Below.then ?_ hb5 (by first | omega | (simp; done) | (simp; omega)) | refine Below.then ?_ hb4 (by first | omega | (simp; done) | (simp; omega)) | refine Below.then ?_ hb3 (by first | omega | (simp; done) | (simp; omega)) | refine Below.then ?_ hb2 (by first | omega | (simp; done) | (simp; omega)) | refine Below.then ?_ hb1 (by first | omega | (simp; done) | (simp; omega))))⟩
end Go.Proofs.Ytafenndokmccoaa
