/- The layer 'layout' and its reference: which plans may be; how many words there are; where acks, lists and spaces stand. -/
import Derived.Test.YtafenndokmccoaaShapeRef
namespace Go.Proofs.Ytafenndokmccoaa
open Go.RowKit
set_option linter.unusedVariables false
set_option linter.unusedSimpArgs false

/-- may a plan be; how many words it has; what goes wrong with a place -/
def planB (t sp : Int) (ss : List ByteArray) : Bool := decide (1 ≤ t ∧ t ≤ 8) && decide (32 ≤ sp ∧ sp ≤ 4096) && tableB ss
def planE (t sp : Int) (ss : List ByteArray) : Int := if planB t sp ss = true then 0 else 2
def placeE (t sp : Int) (ss : List ByteArray) (n many : Int) : Int := if planB t sp ss = true then (if n < 0 ∨ many ≤ n then 4 else 0) else 2
def placeV (t sp : Int) (ss : List ByteArray) (n many v : Int) : Int := if placeE t sp ss n many = 0 then v else 0
theorem plan_ok {t sp : Int} {ss : List ByteArray} (h : planB t sp ss = true) : 1 ≤ t ∧ t ≤ 8 ∧ 32 ≤ sp ∧ sp ≤ 4096 ∧ tableB ss = true := by
  simp only [planB, Bool.and_eq_true, decide_eq_true_eq] at h; exact ⟨h.1.1.1, h.1.1.2, h.1.2.1, h.1.2.2, h.2⟩

theorem within_calls (lo hi n : Int) (B : Nat) (w : World) (hB : B < w.heap.size) (hc : w.cell? ⟨B, 0, none⟩ = some (.int .i64 n)) :
    Calls Try.prog 76 #[.int .i64 lo, .int .i64 hi, .slice (some ⟨B, 0, none⟩) 1 1] w fun e w' => e = .returned (.bool (decide (lo ≤ n ∧ n ≤ hi))) ∧ Below w.heap.size w w' := by
  obtain ⟨r, hr⟩ : ∃ r, decide (lo ≤ n ∧ n ≤ hi) = r := ⟨_, rfl⟩
  rw [hr]
  have HR := Lib.hid hr
  clear hr
  go_enter Try.func76, Try.ntmps76
  go_wp2
  go_loopw [8, 11] (fun _ i wr => ∃ k : Nat, k ≤ 1 ∧ i = .int .i64 k ∧ Below w.heap.size w wr ∧ (k = 1 → lo ≤ n ∧ n ≤ hi)) (fun _ i _ => 1 - (intOf i).toNat)
  case atStart => exact ⟨0, by omega, rfl, Below.refl _ _, fun h => by omega⟩
  case round =>
    obtain ⟨k, hk, rfl, hBe, hin⟩ := hrel
    have hzB := hBe.size
    by_cases hlt : k < 1
    · obtain rfl : k = 0 := by omega
      have hcx := (hBe.cell (p := ⟨B, 0, none⟩) hB).trans hc
      clear hin
      by_cases h1 : n < lo
      · go_wp2
        go_ret
        exact ⟨by rw [show r = false from by rw [← HR.out]; simp; omega]; rfl, hBe⟩
      · by_cases h2 : hi < n
        · go_wp2
          go_ret
          exact ⟨by rw [show r = false from by rw [← HR.out]; simp; omega]; rfl, hBe⟩
        · go_wp2
          go_roundw
          case rel => exact ⟨1, by omega, rfl, hBe, fun _ => ⟨by omega, by omega⟩⟩
          case measure => simp [intOf]
    · obtain rfl : k = 1 := by omega
      have HI := Lib.hid (hin rfl)
      clear hin
      go_wp2
      go_ret
      exact ⟨by rw [show r = true from by rw [← HR.out]; simpa using HI.out]; rfl, hBe⟩

set_option maxHeartbeats 800000 in
theorem layCheck_calls (t sp : Int) (a : Option Addr) (c : Nat) (ss : List ByteArray) (hn : ss.length ≤ maxLen) (w : World) (h : SlOf w a (strV ss)) :
    Calls Try.prog 49 #[.agg #[.int .i64 t, .int .i64 sp, .slice a ss.length c]] w fun e w' => e = .returned (.int .i64 (planE t sp ss)) ∧ Below w.heap.size w w' := by
  have HS := Lib.hid h
  have hck := fun w h => check_calls a c ss hn w h
  clear h
  have H1 := Lib.hid (fun B w h hc => within_calls 1 8 t B w h hc)
  have H2 := Lib.hid (fun B w h hc => within_calls 32 4096 sp B w h hc)
  by_cases h1 : 1 ≤ t ∧ t ≤ 8
  · rw [decide_eq_true h1] at H1
    by_cases h2 : 32 ≤ sp ∧ sp ≤ 4096
    · rw [decide_eq_true h2] at H2
      have e1 : planE t sp ss = checkE ss := by simp [planE, planB, checkE, h1, h2]
      rw [e1]
      have HC := Lib.hid hck
      clear hck e1
      go_enter Try.func49, Try.ntmps49
      go_wp2_with fail
      refine (H1.out _ _ (by simp; try omega) (by simp)).mono ?_; rintro e1 w1 ⟨rfl, hb1⟩; obtain ⟨hc1, hf1⟩ := bcell hb1; have hz1 := hb1.size; (try simp at hz1)
      have q1 := hc1 w.heap.size 1 (by simp; try omega)
      have q2 := hc1 w.heap.size 2 (by simp; try omega)
      simp [go_sem] at q1 q2
      go_wp2_with fail
      refine (H2.out _ _ (by simp; try omega) (by simp)).mono ?_; rintro e2 w2 ⟨rfl, hb2⟩; obtain ⟨hc2, hf2⟩ := bcell hb2; have hz2 := hb2.size; (try simp at hz2)
      replace q2 := hold_cell (w2 := w2) q2 (by (repeat (first | exact Below.refl _ _ | (with_reducible assumption) | refine Below.drew ?_ | refine Below.drewN' ?_ _ | refine Below.alloc ?_ (by first | omega | (simp; done) | (simp; omega)) _ | refine Below.setCell ?_ (by first | omega | (simp; done) | (simp; omega)) _ | refine Below.then ?_ hb9 (by first | omega | (simp; done) | (simp; omega)) | refine Below.then ?_ hb8 (by first | omega | (simp; done) | (simp; omega)) | refine Below.then ?_ hb7 (by first | omega | (simp; done) | (simp; omega)) | refine Below.then ?_ hb6 (by first | omega | (simp; done) | (simp; omega)) | refine Below.then ?_ hb5 (by first | omega | (simp; done) | (simp; omega)) | refine Below.then ?_ hb4 (by first | omega | (simp; done) | (simp; omega)) | refine Below.then ?_ hb3 (by first | omega | (simp; done) | (simp; omega)) | refine Below.then ?_ hb2 (by first | omega | (simp; done) | (simp; omega)) | refine Below.then ?_ hb1 (by first | omega | (simp; done) | (simp; omega))))) (by first | omega | (simp; done) | (simp; omega))
      go_wp2_with fail
      have hS2 := (HS.out.below (show Below w.heap.size w w2 from by (repeat (first | exact Below.refl _ _ | (with_reducible assumption) | refine Below.drew ?_ | refine Below.drewN' ?_ _ | refine Below.alloc ?_ (by first | omega | (simp; done) | (simp; omega)) _ | refine Below.setCell ?_ (by first | omega | (simp; done) | (simp; omega)) _ | refine Below.then ?_ hb9 (by first | omega | (simp; done) | (simp; omega)) | refine Below.then ?_ hb8 (by first | omega | (simp; done) | (simp; omega)) | refine Below.then ?_ hb7 (by first | omega | (simp; done) | (simp; omega)) | refine Below.then ?_ hb6 (by first | omega | (simp; done) | (simp; omega)) | refine Below.then ?_ hb5 (by first | omega | (simp; done) | (simp; omega)) | refine Below.then ?_ hb4 (by first | omega | (simp; done) | (simp; omega)) | refine Below.then ?_ hb3 (by first | omega | (simp; done) | (simp; omega)) | refine Below.then ?_ hb2 (by first | omega | (simp; done) | (simp; omega)) | refine Below.then ?_ hb1 (by first | omega | (simp; done) | (simp; omega))))))
      refine (HC.out _ hS2).mono ?_; rintro e3 w3 ⟨rfl, hb3⟩; obtain ⟨hc3, hf3⟩ := bcell hb3; have hz3 := hb3.size; (try simp at hz3)
      go_wp2
      go_ret
      exact ⟨rfl, by (repeat (first | exact Below.refl _ _ | (with_reducible assumption) | refine Below.drew ?_ | refine Below.drewN' ?_ _ | refine Below.alloc ?_ (by first | omega | (simp; done) | (simp; omega)) _ | refine Below.setCell ?_ (by first | omega | (simp; done) | (simp; omega)) _ | refine Below.then ?_ hb9 (by first | omega | (simp; done) | (simp; omega)) | refine Below.then ?_ hb8 (by first | omega | (simp; done) | (simp; omega)) | refine Below.then ?_ hb7 (by first | omega | (simp; done) | (simp; omega)) | refine Below.then ?_ hb6 (by first | omega | (simp; done) | (simp; omega)) | refine Below.then ?_ hb5 (by first | omega | (simp; done) | (simp; omega)) | refine Below.then ?_ hb4 (by first | omega | (simp; done) | (simp; omega)) | refine Below.then ?_ hb3 (by first | omega | (simp; done) | (simp; omega)) | refine Below.then ?_ hb2 (by first | omega | (simp; done) | (simp; omega)) | refine Below.then ?_ hb1 (by first | omega | (simp; done) | (simp; omega))))⟩
    · rw [decide_eq_false h2] at H2
      have e1 : planE t sp ss = 2 := by simp [planE, planB, h2]
      rw [e1]
      clear hck e1
      go_enter Try.func49, Try.ntmps49
      go_wp2_with fail
      refine (H1.out _ _ (by simp; try omega) (by simp)).mono ?_; rintro e1 w1 ⟨rfl, hb1⟩; obtain ⟨hc1, hf1⟩ := bcell hb1; have hz1 := hb1.size; (try simp at hz1)
      have q1 := hc1 w.heap.size 1 (by simp; try omega)
      simp [go_sem] at q1
      go_wp2_with fail
      refine (H2.out _ _ (by simp; try omega) (by simp)).mono ?_; rintro e2 w2 ⟨rfl, hb2⟩; obtain ⟨hc2, hf2⟩ := bcell hb2; have hz2 := hb2.size; (try simp at hz2)
      go_wp2
      go_ret
      exact ⟨rfl, by (repeat (first | exact Below.refl _ _ | (with_reducible assumption) | refine Below.drew ?_ | refine Below.drewN' ?_ _ | refine Below.alloc ?_ (by first | omega | (simp; done) | (simp; omega)) _ | refine Below.setCell ?_ (by first | omega | (simp; done) | (simp; omega)) _ | refine Below.then ?_ hb9 (by first | omega | (simp; done) | (simp; omega)) | refine Below.then ?_ hb8 (by first | omega | (simp; done) | (simp; omega)) | refine Below.then ?_ hb7 (by first | omega | (simp; done) | (simp; omega)) | refine Below.then ?_ hb6 (by first | omega | (simp; done) | (simp; omega)) | refine Below.then ?_ hb5 (by first | omega | (simp; done) | (simp; omega)) | refine Below.then ?_ hb4 (by first | omega | (simp; done) | (simp; omega)) | refine Below.then ?_ hb3 (by first | omega | (simp; done) | (simp; omega)) | refine Below.then ?_ hb2 (by first | omega | (simp; done) | (simp; omega)) | refine Below.then ?_ hb1 (by first | omega | (simp; done) | (simp; omega))))⟩
  · rw [decide_eq_false h1] at H1
    have e1 : planE t sp ss = 2 := by simp [planE, planB, h1]
    rw [e1]
    clear hck e1
    go_enter Try.func49, Try.ntmps49
    go_wp2_with fail
    refine (H1.out _ _ (by simp; try omega) (by simp)).mono ?_; rintro e1 w1 ⟨rfl, hb1⟩; obtain ⟨hc1, hf1⟩ := bcell hb1; have hz1 := hb1.size; (try simp at hz1)
    go_wp2
    go_ret
    exact ⟨rfl, by (repeat (first | exact Below.refl _ _ | (with_reducible assumption) | refine Below.drew ?_ | refine Below.drewN' ?_ _ | refine Below.alloc ?_ (by first | omega | (simp; done) | (simp; omega)) _ | refine Below.setCell ?_ (by first | omega | (simp; done) | (simp; omega)) _ | refine Below.then ?_ hb9 (by first | omega | (simp; done) | (simp; omega)) | refine Below.then ?_ hb8 (by first | omega | (simp; done) | (simp; omega)) | refine Below.then ?_ hb7 (by first | omega | (simp; done) | (simp; omega)) | refine Below.then ?_ hb6 (by first | omega | (simp; done) | (simp; omega)) | refine Below.then ?_ hb5 (by first | omega | (simp; done) | (simp; omega)) | refine Below.then ?_ hb4 (by first | omega | (simp; done) | (simp; omega)) | refine Below.then ?_ hb3 (by first | omega | (simp; done) | (simp; omega)) | refine Below.then ?_ hb2 (by first | omega | (simp; done) | (simp; omega)) | refine Below.then ?_ hb1 (by first | omega | (simp; done) | (simp; omega))))⟩

set_option maxHeartbeats 800000 in
theorem laySize_calls (t sp : Int) (a : Option Addr) (c : Nat) (ss : List ByteArray) (hn : ss.length ≤ maxLen) (w : World) (h : SlOf w a (strV ss)) :
    Calls Try.prog 150 #[.agg #[.int .i64 t, .int .i64 sp, .slice a ss.length c]] w fun e w' => e = .returned (.tuple #[.int .i64 (placeV t sp ss 0 1 (3 + 2 * t + 2 * sp)), .int .i64 (placeE t sp ss 0 1)]) ∧ Below w.heap.size w w' := by
  have HS := Lib.hid h
  have hck := fun w h => layCheck_calls t sp a c ss hn w h
  clear h
  cases hp : planB t sp ss with
  | false =>
    have e1 : planE t sp ss = 2 := by simp [planE, hp]
    have e2 : placeE t sp ss 0 1 = 2 := by simp [placeE, hp]
    have e3 : placeV t sp ss 0 1 (3 + 2 * t + 2 * sp) = 0 := by simp [placeV, e2]
    rw [e1] at hck
    rw [e2, e3]
    have HC := Lib.hid hck
    clear hck e1 e2 e3 hp
    go_enter Try.func150, Try.ntmps150
    go_wp2_with (go_at_call 78; go_in)
    refine (HC.out _ ((HS.out.alloc _).alloc _)).mono ?_; rintro e1 w1 ⟨rfl, hb1⟩; obtain ⟨hc1, hf1⟩ := bcell hb1; have hz1 := hb1.size; (try simp at hz1)
    go_wp2
    go_ret2
    exact ⟨rfl, by (repeat (first | exact Below.refl _ _ | (with_reducible assumption) | refine Below.drew ?_ | refine Below.drewN' ?_ _ | refine Below.alloc ?_ (by first | omega | (simp; done) | (simp; omega)) _ | refine Below.setCell ?_ (by first | omega | (simp; done) | (simp; omega)) _ | refine Below.then ?_ hb9 (by first | omega | (simp; done) | (simp; omega)) | refine Below.then ?_ hb8 (by first | omega | (simp; done) | (simp; omega)) | refine Below.then ?_ hb7 (by first | omega | (simp; done) | (simp; omega)) | refine Below.then ?_ hb6 (by first | omega | (simp; done) | (simp; omega)) | refine Below.then ?_ hb5 (by first | omega | (simp; done) | (simp; omega)) | refine Below.then ?_ hb4 (by first | omega | (simp; done) | (simp; omega)) | refine Below.then ?_ hb3 (by first | omega | (simp; done) | (simp; omega)) | refine Below.then ?_ hb2 (by first | omega | (simp; done) | (simp; omega)) | refine Below.then ?_ hb1 (by first | omega | (simp; done) | (simp; omega))))⟩
  | true =>
    have e1 : planE t sp ss = 0 := by simp [planE, hp]
    obtain ⟨b1, b2, b3, b4, _⟩ := plan_ok hp
    rw [e1] at hck
    have HC := Lib.hid hck
    have e2 : placeE t sp ss 0 1 = 0 := by simp [placeE, hp]
    have e3 : placeV t sp ss 0 1 (3 + 2 * t + 2 * sp) = 3 + 2 * t + 2 * sp := by simp [placeV, e2]
    rw [e2, e3]
    clear hck e1 e2 e3 hp
    go_enter Try.func150, Try.ntmps150
    go_wp2_with (go_at_call 78; go_in)
    refine (HC.out _ ((HS.out.alloc _).alloc _)).mono ?_; rintro e1 w1 ⟨rfl, hb1⟩; obtain ⟨hc1, hf1⟩ := bcell hb1; have hz1 := hb1.size; (try simp at hz1)
    go_wp2_with (first | (go_at_call 174; go_in) | (go_at_call 79; go_in))
    go_ret2
    exact ⟨rfl, by (repeat (first | exact Below.refl _ _ | (with_reducible assumption) | refine Below.drew ?_ | refine Below.drewN' ?_ _ | refine Below.alloc ?_ (by first | omega | (simp; done) | (simp; omega)) _ | refine Below.setCell ?_ (by first | omega | (simp; done) | (simp; omega)) _ | refine Below.then ?_ hb9 (by first | omega | (simp; done) | (simp; omega)) | refine Below.then ?_ hb8 (by first | omega | (simp; done) | (simp; omega)) | refine Below.then ?_ hb7 (by first | omega | (simp; done) | (simp; omega)) | refine Below.then ?_ hb6 (by first | omega | (simp; done) | (simp; omega)) | refine Below.then ?_ hb5 (by first | omega | (simp; done) | (simp; omega)) | refine Below.then ?_ hb4 (by first | omega | (simp; done) | (simp; omega)) | refine Below.then ?_ hb3 (by first | omega | (simp; done) | (simp; omega)) | refine Below.then ?_ hb2 (by first | omega | (simp; done) | (simp; omega)) | refine Below.then ?_ hb1 (by first | omega | (simp; done) | (simp; omega))))⟩

set_option maxHeartbeats 800000 in
theorem layAck_calls (t sp : Int) (a : Option Addr) (c : Nat) (ss : List ByteArray) (n : Int) (hn : ss.length ≤ maxLen) (w : World) (h : SlOf w a (strV ss)) :
    Calls Try.prog 89 #[.agg #[.int .i64 t, .int .i64 sp, .slice a ss.length c], .int .i64 n] w fun e w' => e = .returned (.tuple #[.int .i64 (placeV t sp ss n t (3 + n)), .int .i64 (placeE t sp ss n t)]) ∧ Below w.heap.size w w' := by
  have HS := Lib.hid h
  have hck := fun w h => layCheck_calls t sp a c ss hn w h
  clear h
  cases hp : planB t sp ss with
  | false =>
    have e1 : planE t sp ss = 2 := by simp [planE, hp]
    have e2 : placeE t sp ss n t = 2 := by simp [placeE, hp]
    have e3 : placeV t sp ss n t (3 + n) = 0 := by simp [placeV, e2]
    rw [e1] at hck
    rw [e2, e3]
    have HC := Lib.hid hck
    clear hck e1 e2 e3 hp
    go_enter Try.func89, Try.ntmps89
    go_wp2_with (go_at_call 78; go_in)
    refine (HC.out _ ((HS.out.alloc _).alloc _)).mono ?_; rintro e1 w1 ⟨rfl, hb1⟩; obtain ⟨hc1, hf1⟩ := bcell hb1; have hz1 := hb1.size; (try simp at hz1)
    go_wp2
    go_ret2
    exact ⟨rfl, by (repeat (first | exact Below.refl _ _ | (with_reducible assumption) | refine Below.drew ?_ | refine Below.drewN' ?_ _ | refine Below.alloc ?_ (by first | omega | (simp; done) | (simp; omega)) _ | refine Below.setCell ?_ (by first | omega | (simp; done) | (simp; omega)) _ | refine Below.then ?_ hb9 (by first | omega | (simp; done) | (simp; omega)) | refine Below.then ?_ hb8 (by first | omega | (simp; done) | (simp; omega)) | refine Below.then ?_ hb7 (by first | omega | (simp; done) | (simp; omega)) | refine Below.then ?_ hb6 (by first | omega | (simp; done) | (simp; omega)) | refine Below.then ?_ hb5 (by first | omega | (simp; done) | (simp; omega)) | refine Below.then ?_ hb4 (by first | omega | (simp; done) | (simp; omega)) | refine Below.then ?_ hb3 (by first | omega | (simp; done) | (simp; omega)) | refine Below.then ?_ hb2 (by first | omega | (simp; done) | (simp; omega)) | refine Below.then ?_ hb1 (by first | omega | (simp; done) | (simp; omega))))⟩
  | true =>
    have e1 : planE t sp ss = 0 := by simp [planE, hp]
    obtain ⟨b1, b2, b3, b4, _⟩ := plan_ok hp
    rw [e1] at hck
    have HC := Lib.hid hck
    by_cases h1 : n < 0
    · have e2 : placeE t sp ss n t = 4 := by simp [placeE, hp, h1]
      have e3 : placeV t sp ss n t (3 + n) = 0 := by simp [placeV, e2]
      rw [e2, e3]
      clear hck e1 e2 e3 hp
      go_enter Try.func89, Try.ntmps89
      go_wp2_with (go_at_call 78; go_in)
      refine (HC.out _ ((HS.out.alloc _).alloc _)).mono ?_; rintro e1 w1 ⟨rfl, hb1⟩; obtain ⟨hc1, hf1⟩ := bcell hb1; have hz1 := hb1.size; (try simp at hz1)
      go_wp2
      go_ret2
      exact ⟨rfl, by (repeat (first | exact Below.refl _ _ | (with_reducible assumption) | refine Below.drew ?_ | refine Below.drewN' ?_ _ | refine Below.alloc ?_ (by first | omega | (simp; done) | (simp; omega)) _ | refine Below.setCell ?_ (by first | omega | (simp; done) | (simp; omega)) _ | refine Below.then ?_ hb9 (by first | omega | (simp; done) | (simp; omega)) | refine Below.then ?_ hb8 (by first | omega | (simp; done) | (simp; omega)) | refine Below.then ?_ hb7 (by first | omega | (simp; done) | (simp; omega)) | refine Below.then ?_ hb6 (by first | omega | (simp; done) | (simp; omega)) | refine Below.then ?_ hb5 (by first | omega | (simp; done) | (simp; omega)) | refine Below.then ?_ hb4 (by first | omega | (simp; done) | (simp; omega)) | refine Below.then ?_ hb3 (by first | omega | (simp; done) | (simp; omega)) | refine Below.then ?_ hb2 (by first | omega | (simp; done) | (simp; omega)) | refine Below.then ?_ hb1 (by first | omega | (simp; done) | (simp; omega))))⟩
    · by_cases h2 : t ≤ n
      · have e2 : placeE t sp ss n t = 4 := by simp [placeE, hp, h2]
        have e3 : placeV t sp ss n t (3 + n) = 0 := by simp [placeV, e2]
        rw [e2, e3]
        clear hck e1 e2 e3 hp
        go_enter Try.func89, Try.ntmps89
        go_wp2_with (go_at_call 78; go_in)
        refine (HC.out _ ((HS.out.alloc _).alloc _)).mono ?_; rintro e1 w1 ⟨rfl, hb1⟩; obtain ⟨hc1, hf1⟩ := bcell hb1; have hz1 := hb1.size; (try simp at hz1)
        go_wp2
        go_ret2
        exact ⟨rfl, by (repeat (first | exact Below.refl _ _ | (with_reducible assumption) | refine Below.drew ?_ | refine Below.drewN' ?_ _ | refine Below.alloc ?_ (by first | omega | (simp; done) | (simp; omega)) _ | refine Below.setCell ?_ (by first | omega | (simp; done) | (simp; omega)) _ | refine Below.then ?_ hb9 (by first | omega | (simp; done) | (simp; omega)) | refine Below.then ?_ hb8 (by first | omega | (simp; done) | (simp; omega)) | refine Below.then ?_ hb7 (by first | omega | (simp; done) | (simp; omega)) | refine Below.then ?_ hb6 (by first | omega | (simp; done) | (simp; omega)) | refine Below.then ?_ hb5 (by first | omega | (simp; done) | (simp; omega)) | refine Below.then ?_ hb4 (by first | omega | (simp; done) | (simp; omega)) | refine Below.then ?_ hb3 (by first | omega | (simp; done) | (simp; omega)) | refine Below.then ?_ hb2 (by first | omega | (simp; done) | (simp; omega)) | refine Below.then ?_ hb1 (by first | omega | (simp; done) | (simp; omega))))⟩
      · have h3 : ¬(n < 0 ∨ t ≤ n) := by omega
        have e2 : placeE t sp ss n t = 0 := by simp [placeE, hp, h3]
        have e3 : placeV t sp ss n t (3 + n) = 3 + n := by simp [placeV, e2]
        rw [e2, e3]
        clear hck e1 e2 e3 hp
        go_enter Try.func89, Try.ntmps89
        go_wp2_with (go_at_call 78; go_in)
        refine (HC.out _ ((HS.out.alloc _).alloc _)).mono ?_; rintro e1 w1 ⟨rfl, hb1⟩; obtain ⟨hc1, hf1⟩ := bcell hb1; have hz1 := hb1.size; (try simp at hz1)
        go_wp2_with (first | (go_at_call 112; go_in))
        go_ret2
        exact ⟨rfl, by (repeat (first | exact Below.refl _ _ | (with_reducible assumption) | refine Below.drew ?_ | refine Below.drewN' ?_ _ | refine Below.alloc ?_ (by first | omega | (simp; done) | (simp; omega)) _ | refine Below.setCell ?_ (by first | omega | (simp; done) | (simp; omega)) _ | refine Below.then ?_ hb9 (by first | omega | (simp; done) | (simp; omega)) | refine Below.then ?_ hb8 (by first | omega | (simp; done) | (simp; omega)) | refine Below.then ?_ hb7 (by first | omega | (simp; done) | (simp; omega)) | refine Below.then ?_ hb6 (by first | omega | (simp; done) | (simp; omega)) | refine Below.then ?_ hb5 (by first | omega | (simp; done) | (simp; omega)) | refine Below.then ?_ hb4 (by first | omega | (simp; done) | (simp; omega)) | refine Below.then ?_ hb3 (by first | omega | (simp; done) | (simp; omega)) | refine Below.then ?_ hb2 (by first | omega | (simp; done) | (simp; omega)) | refine Below.then ?_ hb1 (by first | omega | (simp; done) | (simp; omega))))⟩

end Go.Proofs.Ytafenndokmccoaa
