/- The layer 'layout': where a space begins. -/
import Derived.Test.YtafenndokmccoaaLay
namespace Go.Proofs.Ytafenndokmccoaa
open Go.RowKit
set_option linter.unusedVariables false
set_option linter.unusedSimpArgs false

set_option maxHeartbeats 800000 in
theorem layBase_calls (t sp : Int) (a : Option Addr) (c : Nat) (ss : List ByteArray) (n : Int) (hn : ss.length ≤ maxLen) (w : World) (h : SlOf w a (strV ss)) :
    Calls Try.prog 50 #[.agg #[.int .i64 t, .int .i64 sp, .slice a ss.length c], .int .i64 n] w fun e w' => e = .returned (.tuple #[.int .i64 (placeV t sp ss n 2 (3 + 2 * t + n * sp)), .int .i64 (placeE t sp ss n 2)]) ∧ Below w.heap.size w w' := by
  have HS := Lib.hid h
  have hck := fun w h => layCheck_calls t sp a c ss hn w h
  clear h
  cases hp : planB t sp ss with
  | false =>
    have e1 : planE t sp ss = 2 := by simp [planE, hp]
    have e2 : placeE t sp ss n 2 = 2 := by simp [placeE, hp]
    have e3 : placeV t sp ss n 2 (3 + 2 * t + n * sp) = 0 := by simp [placeV, e2]
    rw [e1] at hck
    rw [e2, e3]
    have HC := Lib.hid hck
    clear hck e1 e2 e3 hp
    go_enter Try.func50, Try.ntmps50
    go_wp2_with (go_at_call 78; go_in)
    refine (HC.out _ ((HS.out.alloc _).alloc _)).mono ?_; rintro e1 w1 ⟨rfl, hb1⟩; obtain ⟨hc1, hf1⟩ := bcell hb1; have hz1 := hb1.size; (try simp at hz1)
    go_wp2
    go_ret2
    exact ⟨rfl, by (repeat (first | exact Below.refl _ _ | (with_reducible assumption) | refine Below.drew ?_ | refine Below.drewN' ?_ _ | refine Below.alloc ?_ (by first | omega | (simp; done) | (simp; omega)) _ | refine Below.setCell ?_ (by first | omega | (simp; done) | (simp; omega)) _ | refine Below.then ?_ hb9 (by first | omega | (simp; done) | (simp; omega)) | refine Below.then ?_ hb8 (by first | omega | (simp; done) | (simp; omega)) | refine Below.then ?_ hb7 (by first | omega | (simp; done) | (simp; omega)) | refine Below.then ?_ hb6 (by first | omega | (simp; done) | (simp; omega)) | refine Below.then ?_ hb5 (by first | omega | (simp; done) | (simp; omega)) | refine Below.then ?_ hb4 (by first | omega | (simp; done) | (simp; omega)) | refine Below.then ?_ hb3 (by first | omega | (simp; done) | (simp; omega)) | refine Below.then ?_ hb2 (by first | omega | (simp; done) | (simp; omega)) | refine Below.then ?_ hb1 (by first | omega | (simp; done) | (simp; omega))))⟩
  | true =>
    have e1 : planE t sp ss = 0 := by simp [planE, hp]
    obtain ⟨b1, b2, b3, b4, _⟩ := plan_ok hp
    rw [e1] at hck
    have HC := Lib.hid hck
    by_cases h1 : n < 0
    · have e2 : placeE t sp ss n 2 = 4 := by simp [placeE, hp, h1]
      have e3 : placeV t sp ss n 2 (3 + 2 * t + n * sp) = 0 := by simp [placeV, e2]
      rw [e2, e3]
      clear hck e1 e2 e3 hp
      go_enter Try.func50, Try.ntmps50
      go_wp2_with (go_at_call 78; go_in)
      refine (HC.out _ ((HS.out.alloc _).alloc _)).mono ?_; rintro e1 w1 ⟨rfl, hb1⟩; obtain ⟨hc1, hf1⟩ := bcell hb1; have hz1 := hb1.size; (try simp at hz1)
      go_wp2
      go_ret2
      exact ⟨rfl, by (repeat (first | exact Below.refl _ _ | (with_reducible assumption) | refine Below.drew ?_ | refine Below.drewN' ?_ _ | refine Below.alloc ?_ (by first | omega | (simp; done) | (simp; omega)) _ | refine Below.setCell ?_ (by first | omega | (simp; done) | (simp; omega)) _ | refine Below.then ?_ hb9 (by first | omega | (simp; done) | (simp; omega)) | refine Below.then ?_ hb8 (by first | omega | (simp; done) | (simp; omega)) | refine Below.then ?_ hb7 (by first | omega | (simp; done) | (simp; omega)) | refine Below.then ?_ hb6 (by first | omega | (simp; done) | (simp; omega)) | refine Below.then ?_ hb5 (by first | omega | (simp; done) | (simp; omega)) | refine Below.then ?_ hb4 (by first | omega | (simp; done) | (simp; omega)) | refine Below.then ?_ hb3 (by first | omega | (simp; done) | (simp; omega)) | refine Below.then ?_ hb2 (by first | omega | (simp; done) | (simp; omega)) | refine Below.then ?_ hb1 (by first | omega | (simp; done) | (simp; omega))))⟩
    · by_cases h2 : 2 ≤ n
      · have e2 : placeE t sp ss n 2 = 4 := by simp [placeE, hp, h2]
        have e3 : placeV t sp ss n 2 (3 + 2 * t + n * sp) = 0 := by simp [placeV, e2]
        rw [e2, e3]
        clear hck e1 e2 e3 hp
        go_enter Try.func50, Try.ntmps50
        go_wp2_with (go_at_call 78; go_in)
        refine (HC.out _ ((HS.out.alloc _).alloc _)).mono ?_; rintro e1 w1 ⟨rfl, hb1⟩; obtain ⟨hc1, hf1⟩ := bcell hb1; have hz1 := hb1.size; (try simp at hz1)
        go_wp2
        go_ret2
        exact ⟨rfl, by (repeat (first | exact Below.refl _ _ | (with_reducible assumption) | refine Below.drew ?_ | refine Below.drewN' ?_ _ | refine Below.alloc ?_ (by first | omega | (simp; done) | (simp; omega)) _ | refine Below.setCell ?_ (by first | omega | (simp; done) | (simp; omega)) _ | refine Below.then ?_ hb9 (by first | omega | (simp; done) | (simp; omega)) | refine Below.then ?_ hb8 (by first | omega | (simp; done) | (simp; omega)) | refine Below.then ?_ hb7 (by first | omega | (simp; done) | (simp; omega)) | refine Below.then ?_ hb6 (by first | omega | (simp; done) | (simp; omega)) | refine Below.then ?_ hb5 (by first | omega | (simp; done) | (simp; omega)) | refine Below.then ?_ hb4 (by first | omega | (simp; done) | (simp; omega)) | refine Below.then ?_ hb3 (by first | omega | (simp; done) | (simp; omega)) | refine Below.then ?_ hb2 (by first | omega | (simp; done) | (simp; omega)) | refine Below.then ?_ hb1 (by first | omega | (simp; done) | (simp; omega))))⟩
      · have h3 : ¬(n < 0 ∨ 2 ≤ n) := by omega
        clear h1 h2
        rcases (show n = 0 ∨ n = 1 by omega) with rfl | rfl
        · have e2 : placeE t sp ss 0 2 = 0 := by rw [placeE, if_pos hp, if_neg h3]
          have e3 : placeV t sp ss 0 2 (3 + 2 * t + 0 * sp) = 3 + 2 * t + 0 * sp := by rw [placeV, if_pos e2]
          rw [e2, e3]
          clear hck e1 e2 e3 hp
          go_enter Try.func50, Try.ntmps50
          go_wp2_with (go_at_call 78; go_in)
          refine (HC.out _ ((HS.out.alloc _).alloc _)).mono ?_; rintro e1 w1 ⟨rfl, hb1⟩; obtain ⟨hc1, hf1⟩ := bcell hb1; have hz1 := hb1.size; (try simp at hz1)
          go_wp2_with (first | (go_at_call 79; go_in))
          go_ret2
          exact ⟨by simp, by (repeat (first | exact Below.refl _ _ | (with_reducible assumption) | refine Below.drew ?_ | refine Below.drewN' ?_ _ | refine Below.alloc ?_ (by first | omega | (simp; done) | (simp; omega)) _ | refine Below.setCell ?_ (by first | omega | (simp; done) | (simp; omega)) _ | refine Below.then ?_ hb9 (by first | omega | (simp; done) | (simp; omega)) | refine Below.then ?_ hb8 (by first | omega | (simp; done) | (simp; omega)) | refine Below.then ?_ hb7 (by first | omega | (simp; done) | (simp; omega)) | refine Below.then ?_ hb6 (by first | omega | (simp; done) | (simp; omega)) | refine Below.then ?_ hb5 (by first | omega | (simp; done) | (simp; omega)) | refine Below.then ?_ hb4 (by first | omega | (simp; done) | (simp; omega)) | refine Below.then ?_ hb3 (by first | omega | (simp; done) | (simp; omega)) | refine Below.then ?_ hb2 (by first | omega | (simp; done) | (simp; omega)) | refine Below.then ?_ hb1 (by first | omega | (simp; done) | (simp; omega))))⟩
        · have e2 : placeE t sp ss 1 2 = 0 := by rw [placeE, if_pos hp, if_neg h3]
          have e3 : placeV t sp ss 1 2 (3 + 2 * t + 1 * sp) = 3 + 2 * t + 1 * sp := by rw [placeV, if_pos e2]
          rw [e2, e3]
          clear hck e1 e2 e3 hp
          go_enter Try.func50, Try.ntmps50
          go_wp2_with (go_at_call 78; go_in)
          refine (HC.out _ ((HS.out.alloc _).alloc _)).mono ?_; rintro e1 w1 ⟨rfl, hb1⟩; obtain ⟨hc1, hf1⟩ := bcell hb1; have hz1 := hb1.size; (try simp at hz1)
          go_wp2_with (first | (go_at_call 79; go_in))
          go_ret2
          exact ⟨by simp, by (repeat (first | exact Below.refl _ _ | (with_reducible assumption) | refine Below.drew ?_ | refine Below.drewN' ?_ _ | refine Below.alloc ?_ (by first | omega | (simp; done) | (simp; omega)) _ | refine Below.setCell ?_ (by first | omega | (simp; done) | (simp; omega)) _ | refine Below.then ?_ hb9 (by first | omega | (simp; done) | (simp; omega)) | refine Below.then ?_ hb8 (by first | omega | (simp; done) | (simp; omega)) | refine Below.then ?_ hb7 (by first | omega | (simp; done) | (simp; omega)) | refine Below.then ?_ hb6 (by first | omega | (simp; done) | (simp; omega)) | refine Below.then ?_ hb5 (by first | omega | (simp; done) | (simp; omega)) | refine Below.then ?_ hb4 (by first | omega | (simp; done) | (simp; omega)) | refine Below.then ?_ hb3 (by first | omega | (simp; done) | (simp; omega)) | refine Below.then ?_ hb2 (by first | omega | (simp; done) | (simp; omega)) | refine Below.then ?_ hb1 (by first | omega | (simp; done) | (simp; omega))))⟩

end Go.Proofs.Ytafenndokmccoaa
