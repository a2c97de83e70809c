/- The law of layer 'door': the chapter's rows hold. -/
import Derived.Test.YtafenndokmccoaaDoorH
import Derived.Test.YtafenndokmccoaaMakeP
namespace Go.Proofs.Ytafenndokmccoaa
open Go.RowKit
set_option linter.unusedVariables false
set_option linter.unusedSimpArgs false

def th19 : ThN := ⟨0, 0, 0, 0, 0, 0, 0, 40, 0, 0, 0, 0, 0⟩
theorem th19_ok : ThOk th19 := ⟨by decide, by decide, by decide, by decide, by decide, by decide, by decide⟩

theorem pointer5_calls (w : World) : Calls Try.prog 97 #[.int .i64 5] w fun r w' => r = .returned (.tuple #[.int .u64 40, .int .i64 0]) ∧ Below w.heap.size w w' := by
  have H := Lib.hid (fun W => make_ok2f 5 (by decide) (by decide) W)
  go_enter Try.func97, Try.ntmps97
  go_wp2_with fail
  refine (H.out _).mono ?_; rintro e1 w1 ⟨rfl, hb1⟩; have hz1 := hb1.size; (try simp at hz1)
  go_wp2
  go_ret2
  exact ⟨rfl, by (repeat (first | exact Below.refl _ _ | (with_reducible assumption) | refine Below.drew ?_ | refine Below.drewN' ?_ _ | refine Below.alloc ?_ (by first | omega | (simp; done) | (simp; omega)) _ | refine Below.setCell ?_ (by first | omega | (simp; done) | (simp; omega)) _ | refine Below.then ?_ hb9 (by first | omega | (simp; done) | (simp; omega)) | refine Below.then ?_ hb8 (by first | omega | (simp; done) | (simp; omega)) | refine Below.then ?_ hb7 (by first | omega | (simp; done) | (simp; omega)) | refine Below.then ?_ hb6 (by first | omega | (simp; done) | (simp; omega)) | refine Below.then ?_ hb5 (by first | omega | (simp; done) | (simp; omega)) | refine Below.then ?_ hb4 (by first | omega | (simp; done) | (simp; omega)) | refine Below.then ?_ hb3 (by first | omega | (simp; done) | (simp; omega)) | refine Below.then ?_ hb2 (by first | omega | (simp; done) | (simp; omega)) | refine Below.then ?_ hb1 (by first | omega | (simp; done) | (simp; omega))))⟩

theorem first19_results (W : World) (b : Nat) (tmps : Array Value) (h4 : tmps[4]?.getD undef = .pointer (some ⟨b, 0, none⟩)) (h5 : tmps[5]?.getD undef = .int .i64 0) (hB : W.heap[b]? = some (.cells (thA th19) 90 (0, 0))) :
    (results Try.f70 tmps).run Try.prog W = .ok (.tuple #[thV th19, .int .i64 0]) W := by
  unfold thV thA th19
  unfold thA th19 at hB
  have c0 : W.cell? ⟨b, 0, none⟩ = some (.int .i64 0) := blk_cell hB 0 _ rfl
  have c1 : W.cell? ⟨b, 1, none⟩ = some (.int .i64 0) := blk_cell hB 1 _ rfl
  have c2 : W.cell? ⟨b, 2, none⟩ = some (.int .i64 0) := blk_cell hB 2 _ rfl
  have c3 : W.cell? ⟨b, 3, none⟩ = some (.int .i64 0) := blk_cell hB 3 _ rfl
  have c4 : W.cell? ⟨b, 4, none⟩ = some (.int .i64 0) := blk_cell hB 4 _ rfl
  have c5 : W.cell? ⟨b, 5, none⟩ = some (.int .i64 0) := blk_cell hB 5 _ rfl
  have c6 : W.cell? ⟨b, 6, none⟩ = some (.int .i64 0) := blk_cell hB 6 _ rfl
  have c7 : W.cell? ⟨b, 7, none⟩ = some (.int .u64 40) := blk_cell hB 7 _ rfl
  have c8 : W.cell? ⟨b, 8, none⟩ = some (.int .u64 0) := blk_cell hB 8 _ rfl
  have c9 : W.cell? ⟨b, 9, none⟩ = some (.int .u64 0) := blk_cell hB 9 _ rfl
  have c10 : W.cell? ⟨b, 10, none⟩ = some (.int .u64 0) := blk_cell hB 10 _ rfl
  have c11 : W.cell? ⟨b, 11, none⟩ = some (.int .u64 0) := blk_cell hB 11 _ rfl
  have c12 : W.cell? ⟨b, 12, none⟩ = some (.int .u64 0) := blk_cell hB 12 _ rfl
  simp [results, Try.results70, go_sem, h4, h5, c0, c1, c2, c3, c4, c5, c6, c7, c8, c9, c10, c11, c12]

set_option maxRecDepth 100000 in
set_option maxHeartbeats 3200000 in
theorem first19_calls (a : Option Addr) (c : Nat) (w : World) (h : SlOf w a (strV ss19)) : Calls Try.prog 70 #[.agg #[.int .i64 1, .int .i64 32, .slice a 2 c], .int .i64 0] w fun r w' => r = .returned (.tuple #[thV th19, .int .i64 0]) ∧ Below w.heap.size w w' := by
  have hA := fun W h => layAck_calls 1 32 a c ss19 0 (by decide) W h
  have hB := fun W h => layBase_calls 1 32 a c ss19 0 (by decide) W h
  rw [show placeE 1 32 ss19 0 1 = 0 by decide +kernel, show placeV 1 32 ss19 0 1 (3 + 0) = 3 by decide +kernel] at hA
  rw [show placeE 1 32 ss19 0 2 = 0 by decide +kernel, show placeV 1 32 ss19 0 2 (3 + 2 * 1 + 0 * 32) = 5 by decide +kernel] at hB
  rw [show ss19.length = 2 from rfl] at hA hB
  have HA := Lib.hid hA
  have HB := Lib.hid hB
  have HS := Lib.hid h
  have HP := Lib.hid pointer5_calls
  clear hA hB h
  unfold thV thA th19
  go_enter Try.func70, Try.ntmps70
  go_wp2_with fail
  refine (HA.out _ ((HS.out.alloc _).alloc _)).mono ?_; rintro e1 w1 ⟨rfl, hb1⟩
  obtain ⟨hc1, hf1⟩ := bcell hb1
  have hz1 := hb1.size
  simp at hz1
  have q0 := hc1 w.heap.size 0 (by first | omega | (simp; done) | (simp; omega)); simp [go_sem] at q0
  have q1 := hc1 w.heap.size 1 (by first | omega | (simp; done) | (simp; omega)); simp [go_sem] at q1
  have q2 := hc1 w.heap.size 2 (by first | omega | (simp; done) | (simp; omega)); simp [go_sem] at q2
  have x0 := hc1 (w.heap.size + 1) 0 (by first | omega | (simp; done) | (simp; omega)); simp [go_sem] at x0
  have y0 := hf1 (w.heap.size + 1) 0 (by first | omega | (simp; done) | (simp; omega)); simp [go_sem] at y0
  have x1 := hc1 (w.heap.size + 1) 1 (by first | omega | (simp; done) | (simp; omega)); simp [go_sem] at x1
  have y1 := hf1 (w.heap.size + 1) 1 (by first | omega | (simp; done) | (simp; omega)); simp [go_sem] at y1
  have x2 := hc1 (w.heap.size + 1) 2 (by first | omega | (simp; done) | (simp; omega)); simp [go_sem] at x2
  have y2 := hf1 (w.heap.size + 1) 2 (by first | omega | (simp; done) | (simp; omega)); simp [go_sem] at y2
  have x3 := hc1 (w.heap.size + 1) 3 (by first | omega | (simp; done) | (simp; omega)); simp [go_sem] at x3
  have y3 := hf1 (w.heap.size + 1) 3 (by first | omega | (simp; done) | (simp; omega)); simp [go_sem] at y3
  have x4 := hc1 (w.heap.size + 1) 4 (by first | omega | (simp; done) | (simp; omega)); simp [go_sem] at x4
  have y4 := hf1 (w.heap.size + 1) 4 (by first | omega | (simp; done) | (simp; omega)); simp [go_sem] at y4
  have x5 := hc1 (w.heap.size + 1) 5 (by first | omega | (simp; done) | (simp; omega)); simp [go_sem] at x5
  have y5 := hf1 (w.heap.size + 1) 5 (by first | omega | (simp; done) | (simp; omega)); simp [go_sem] at y5
  have x6 := hc1 (w.heap.size + 1) 6 (by first | omega | (simp; done) | (simp; omega)); simp [go_sem] at x6
  have y6 := hf1 (w.heap.size + 1) 6 (by first | omega | (simp; done) | (simp; omega)); simp [go_sem] at y6
  have x7 := hc1 (w.heap.size + 1) 7 (by first | omega | (simp; done) | (simp; omega)); simp [go_sem] at x7
  have y7 := hf1 (w.heap.size + 1) 7 (by first | omega | (simp; done) | (simp; omega)); simp [go_sem] at y7
  have x8 := hc1 (w.heap.size + 1) 8 (by first | omega | (simp; done) | (simp; omega)); simp [go_sem] at x8
  have y8 := hf1 (w.heap.size + 1) 8 (by first | omega | (simp; done) | (simp; omega)); simp [go_sem] at y8
  have x9 := hc1 (w.heap.size + 1) 9 (by first | omega | (simp; done) | (simp; omega)); simp [go_sem] at x9
  have y9 := hf1 (w.heap.size + 1) 9 (by first | omega | (simp; done) | (simp; omega)); simp [go_sem] at y9
  have x10 := hc1 (w.heap.size + 1) 10 (by first | omega | (simp; done) | (simp; omega)); simp [go_sem] at x10
  have y10 := hf1 (w.heap.size + 1) 10 (by first | omega | (simp; done) | (simp; omega)); simp [go_sem] at y10
  have x11 := hc1 (w.heap.size + 1) 11 (by first | omega | (simp; done) | (simp; omega)); simp [go_sem] at x11
  have y11 := hf1 (w.heap.size + 1) 11 (by first | omega | (simp; done) | (simp; omega)); simp [go_sem] at y11
  have x12 := hc1 (w.heap.size + 1) 12 (by first | omega | (simp; done) | (simp; omega)); simp [go_sem] at x12
  have y12 := hf1 (w.heap.size + 1) 12 (by first | omega | (simp; done) | (simp; omega)); simp [go_sem] at y12
  have X1 : w1.heap[w.heap.size + 1]? = some (.cells #[.int .i64 0, .int .i64 0, .int .i64 0, .int .i64 0, .int .i64 0, .int .i64 0, .int .i64 0, .int .u64 0, .int .u64 0, .int .u64 0, .int .u64 0, .int .u64 0, .int .u64 0] 90 (0, 0)) := by
    have h := hb1.block (w.heap.size + 1) (by simp)
    refine h.trans ?_
    have hs1 : (w.alloc (.cells #[.int .i64 1, .int .i64 32, .slice a 2 c] 24)).heap.size = w.heap.size + 1 := by simp
    rw [← hs1]
    exact (MapKept.heap_alloc _ _).1
  have lq : w.heap.size < w1.heap.size := by omega
  have lx : w.heap.size + 1 < w1.heap.size := by omega
  have hb01 : Below w.heap.size w w1 := by (repeat (first | exact Below.refl _ _ | (with_reducible assumption) | refine Below.drew ?_ | refine Below.drewN' ?_ _ | refine Below.alloc ?_ (by first | omega | (simp; done) | (simp; omega)) _ | refine Below.setCell ?_ (by first | omega | (simp; done) | (simp; omega)) _ | refine Below.then ?_ hb9 (by first | omega | (simp; done) | (simp; omega)) | refine Below.then ?_ hb8 (by first | omega | (simp; done) | (simp; omega)) | refine Below.then ?_ hb7 (by first | omega | (simp; done) | (simp; omega)) | refine Below.then ?_ hb6 (by first | omega | (simp; done) | (simp; omega)) | refine Below.then ?_ hb5 (by first | omega | (simp; done) | (simp; omega)) | refine Below.then ?_ hb4 (by first | omega | (simp; done) | (simp; omega)) | refine Below.then ?_ hb3 (by first | omega | (simp; done) | (simp; omega)) | refine Below.then ?_ hb2 (by first | omega | (simp; done) | (simp; omega)) | refine Below.then ?_ hb1 (by first | omega | (simp; done) | (simp; omega))))
  clear hc1 hf1
  go_wp2_with fail
  refine (HB.out _ (HS.out.below hb01)).mono ?_; rintro e2 w2 ⟨rfl, hb2⟩
  have hz2 := hb2.size
  replace x0 := hold_cell (w2 := w2) x0 (by (repeat (first | exact Below.refl _ _ | (with_reducible assumption) | refine Below.drew ?_ | refine Below.drewN' ?_ _ | refine Below.alloc ?_ (by first | omega | (simp; done) | (simp; omega)) _ | refine Below.setCell ?_ (by first | omega | (simp; done) | (simp; omega)) _ | refine Below.then ?_ hb9 (by first | omega | (simp; done) | (simp; omega)) | refine Below.then ?_ hb8 (by first | omega | (simp; done) | (simp; omega)) | refine Below.then ?_ hb7 (by first | omega | (simp; done) | (simp; omega)) | refine Below.then ?_ hb6 (by first | omega | (simp; done) | (simp; omega)) | refine Below.then ?_ hb5 (by first | omega | (simp; done) | (simp; omega)) | refine Below.then ?_ hb4 (by first | omega | (simp; done) | (simp; omega)) | refine Below.then ?_ hb3 (by first | omega | (simp; done) | (simp; omega)) | refine Below.then ?_ hb2 (by first | omega | (simp; done) | (simp; omega)) | refine Below.then ?_ hb1 (by first | omega | (simp; done) | (simp; omega))))) (by first | omega | (simp; done) | (simp; omega))
  replace y0 := hold_fz (w2 := w2) y0 (by (repeat (first | exact Below.refl _ _ | (with_reducible assumption) | refine Below.drew ?_ | refine Below.drewN' ?_ _ | refine Below.alloc ?_ (by first | omega | (simp; done) | (simp; omega)) _ | refine Below.setCell ?_ (by first | omega | (simp; done) | (simp; omega)) _ | refine Below.then ?_ hb9 (by first | omega | (simp; done) | (simp; omega)) | refine Below.then ?_ hb8 (by first | omega | (simp; done) | (simp; omega)) | refine Below.then ?_ hb7 (by first | omega | (simp; done) | (simp; omega)) | refine Below.then ?_ hb6 (by first | omega | (simp; done) | (simp; omega)) | refine Below.then ?_ hb5 (by first | omega | (simp; done) | (simp; omega)) | refine Below.then ?_ hb4 (by first | omega | (simp; done) | (simp; omega)) | refine Below.then ?_ hb3 (by first | omega | (simp; done) | (simp; omega)) | refine Below.then ?_ hb2 (by first | omega | (simp; done) | (simp; omega)) | refine Below.then ?_ hb1 (by first | omega | (simp; done) | (simp; omega))))) (by first | omega | (simp; done) | (simp; omega))
  replace x1 := hold_cell (w2 := w2) x1 (by (repeat (first | exact Below.refl _ _ | (with_reducible assumption) | refine Below.drew ?_ | refine Below.drewN' ?_ _ | refine Below.alloc ?_ (by first | omega | (simp; done) | (simp; omega)) _ | refine Below.setCell ?_ (by first | omega | (simp; done) | (simp; omega)) _ | refine Below.then ?_ hb9 (by first | omega | (simp; done) | (simp; omega)) | refine Below.then ?_ hb8 (by first | omega | (simp; done) | (simp; omega)) | refine Below.then ?_ hb7 (by first | omega | (simp; done) | (simp; omega)) | refine Below.then ?_ hb6 (by first | omega | (simp; done) | (simp; omega)) | refine Below.then ?_ hb5 (by first | omega | (simp; done) | (simp; omega)) | refine Below.then ?_ hb4 (by first | omega | (simp; done) | (simp; omega)) | refine Below.then ?_ hb3 (by first | omega | (simp; done) | (simp; omega)) | refine Below.then ?_ hb2 (by first | omega | (simp; done) | (simp; omega)) | refine Below.then ?_ hb1 (by first | omega | (simp; done) | (simp; omega))))) (by first | omega | (simp; done) | (simp; omega))
  replace y1 := hold_fz (w2 := w2) y1 (by (repeat (first | exact Below.refl _ _ | (with_reducible assumption) | refine Below.drew ?_ | refine Below.drewN' ?_ _ | refine Below.alloc ?_ (by first | omega | (simp; done) | (simp; omega)) _ | refine Below.setCell ?_ (by first | omega | (simp; done) | (simp; omega)) _ | refine Below.then ?_ hb9 (by first | omega | (simp; done) | (simp; omega)) | refine Below.then ?_ hb8 (by first | omega | (simp; done) | (simp; omega)) | refine Below.then ?_ hb7 (by first | omega | (simp; done) | (simp; omega)) | refine Below.then ?_ hb6 (by first | omega | (simp; done) | (simp; omega)) | refine Below.then ?_ hb5 (by first | omega | (simp; done) | (simp; omega)) | refine Below.then ?_ hb4 (by first | omega | (simp; done) | (simp; omega)) | refine Below.then ?_ hb3 (by first | omega | (simp; done) | (simp; omega)) | refine Below.then ?_ hb2 (by first | omega | (simp; done) | (simp; omega)) | refine Below.then ?_ hb1 (by first | omega | (simp; done) | (simp; omega))))) (by first | omega | (simp; done) | (simp; omega))
  replace x2 := hold_cell (w2 := w2) x2 (by (repeat (first | exact Below.refl _ _ | (with_reducible assumption) | refine Below.drew ?_ | refine Below.drewN' ?_ _ | refine Below.alloc ?_ (by first | omega | (simp; done) | (simp; omega)) _ | refine Below.setCell ?_ (by first | omega | (simp; done) | (simp; omega)) _ | refine Below.then ?_ hb9 (by first | omega | (simp; done) | (simp; omega)) | refine Below.then ?_ hb8 (by first | omega | (simp; done) | (simp; omega)) | refine Below.then ?_ hb7 (by first | omega | (simp; done) | (simp; omega)) | refine Below.then ?_ hb6 (by first | omega | (simp; done) | (simp; omega)) | refine Below.then ?_ hb5 (by first | omega | (simp; done) | (simp; omega)) | refine Below.then ?_ hb4 (by first | omega | (simp; done) | (simp; omega)) | refine Below.then ?_ hb3 (by first | omega | (simp; done) | (simp; omega)) | refine Below.then ?_ hb2 (by first | omega | (simp; done) | (simp; omega)) | refine Below.then ?_ hb1 (by first | omega | (simp; done) | (simp; omega))))) (by first | omega | (simp; done) | (simp; omega))
  replace y2 := hold_fz (w2 := w2) y2 (by (repeat (first | exact Below.refl _ _ | (with_reducible assumption) | refine Below.drew ?_ | refine Below.drewN' ?_ _ | refine Below.alloc ?_ (by first | omega | (simp; done) | (simp; omega)) _ | refine Below.setCell ?_ (by first | omega | (simp; done) | (simp; omega)) _ | refine Below.then ?_ hb9 (by first | omega | (simp; done) | (simp; omega)) | refine Below.then ?_ hb8 (by first | omega | (simp; done) | (simp; omega)) | refine Below.then ?_ hb7 (by first | omega | (simp; done) | (simp; omega)) | refine Below.then ?_ hb6 (by first | omega | (simp; done) | (simp; omega)) | refine Below.then ?_ hb5 (by first | omega | (simp; done) | (simp; omega)) | refine Below.then ?_ hb4 (by first | omega | (simp; done) | (simp; omega)) | refine Below.then ?_ hb3 (by first | omega | (simp; done) | (simp; omega)) | refine Below.then ?_ hb2 (by first | omega | (simp; done) | (simp; omega)) | refine Below.then ?_ hb1 (by first | omega | (simp; done) | (simp; omega))))) (by first | omega | (simp; done) | (simp; omega))
  replace x3 := hold_cell (w2 := w2) x3 (by (repeat (first | exact Below.refl _ _ | (with_reducible assumption) | refine Below.drew ?_ | refine Below.drewN' ?_ _ | refine Below.alloc ?_ (by first | omega | (simp; done) | (simp; omega)) _ | refine Below.setCell ?_ (by first | omega | (simp; done) | (simp; omega)) _ | refine Below.then ?_ hb9 (by first | omega | (simp; done) | (simp; omega)) | refine Below.then ?_ hb8 (by first | omega | (simp; done) | (simp; omega)) | refine Below.then ?_ hb7 (by first | omega | (simp; done) | (simp; omega)) | refine Below.then ?_ hb6 (by first | omega | (simp; done) | (simp; omega)) | refine Below.then ?_ hb5 (by first | omega | (simp; done) | (simp; omega)) | refine Below.then ?_ hb4 (by first | omega | (simp; done) | (simp; omega)) | refine Below.then ?_ hb3 (by first | omega | (simp; done) | (simp; omega)) | refine Below.then ?_ hb2 (by first | omega | (simp; done) | (simp; omega)) | refine Below.then ?_ hb1 (by first | omega | (simp; done) | (simp; omega))))) (by first | omega | (simp; done) | (simp; omega))
  replace y3 := hold_fz (w2 := w2) y3 (by (repeat (first | exact Below.refl _ _ | (with_reducible assumption) | refine Below.drew ?_ | refine Below.drewN' ?_ _ | refine Below.alloc ?_ (by first | omega | (simp; done) | (simp; omega)) _ | refine Below.setCell ?_ (by first | omega | (simp; done) | (simp; omega)) _ | refine Below.then ?_ hb9 (by first | omega | (simp; done) | (simp; omega)) | refine Below.then ?_ hb8 (by first | omega | (simp; done) | (simp; omega)) | refine Below.then ?_ hb7 (by first | omega | (simp; done) | (simp; omega)) | refine Below.then ?_ hb6 (by first | omega | (simp; done) | (simp; omega)) | refine Below.then ?_ hb5 (by first | omega | (simp; done) | (simp; omega)) | refine Below.then ?_ hb4 (by first | omega | (simp; done) | (simp; omega)) | refine Below.then ?_ hb3 (by first | omega | (simp; done) | (simp; omega)) | refine Below.then ?_ hb2 (by first | omega | (simp; done) | (simp; omega)) | refine Below.then ?_ hb1 (by first | omega | (simp; done) | (simp; omega))))) (by first | omega | (simp; done) | (simp; omega))
  replace x4 := hold_cell (w2 := w2) x4 (by (repeat (first | exact Below.refl _ _ | (with_reducible assumption) | refine Below.drew ?_ | refine Below.drewN' ?_ _ | refine Below.alloc ?_ (by first | omega | (simp; done) | (simp; omega)) _ | refine Below.setCell ?_ (by first | omega | (simp; done) | (simp; omega)) _ | refine Below.then ?_ hb9 (by first | omega | (simp; done) | (simp; omega)) | refine Below.then ?_ hb8 (by first | omega | (simp; done) | (simp; omega)) | refine Below.then ?_ hb7 (by first | omega | (simp; done) | (simp; omega)) | refine Below.then ?_ hb6 (by first | omega | (simp; done) | (simp; omega)) | refine Below.then ?_ hb5 (by first | omega | (simp; done) | (simp; omega)) | refine Below.then ?_ hb4 (by first | omega | (simp; done) | (simp; omega)) | refine Below.then ?_ hb3 (by first | omega | (simp; done) | (simp; omega)) | refine Below.then ?_ hb2 (by first | omega | (simp; done) | (simp; omega)) | refine Below.then ?_ hb1 (by first | omega | (simp; done) | (simp; omega))))) (by first | omega | (simp; done) | (simp; omega))
  replace y4 := hold_fz (w2 := w2) y4 (by (repeat (first | exact Below.refl _ _ | (with_reducible assumption) | refine Below.drew ?_ | refine Below.drewN' ?_ _ | refine Below.alloc ?_ (by first | omega | (simp; done) | (simp; omega)) _ | refine Below.setCell ?_ (by first | omega | (simp; done) | (simp; omega)) _ | refine Below.then ?_ hb9 (by first | omega | (simp; done) | (simp; omega)) | refine Below.then ?_ hb8 (by first | omega | (simp; done) | (simp; omega)) | refine Below.then ?_ hb7 (by first | omega | (simp; done) | (simp; omega)) | refine Below.then ?_ hb6 (by first | omega | (simp; done) | (simp; omega)) | refine Below.then ?_ hb5 (by first | omega | (simp; done) | (simp; omega)) | refine Below.then ?_ hb4 (by first | omega | (simp; done) | (simp; omega)) | refine Below.then ?_ hb3 (by first | omega | (simp; done) | (simp; omega)) | refine Below.then ?_ hb2 (by first | omega | (simp; done) | (simp; omega)) | refine Below.then ?_ hb1 (by first | omega | (simp; done) | (simp; omega))))) (by first | omega | (simp; done) | (simp; omega))
  replace x5 := hold_cell (w2 := w2) x5 (by (repeat (first | exact Below.refl _ _ | (with_reducible assumption) | refine Below.drew ?_ | refine Below.drewN' ?_ _ | refine Below.alloc ?_ (by first | omega | (simp; done) | (simp; omega)) _ | refine Below.setCell ?_ (by first | omega | (simp; done) | (simp; omega)) _ | refine Below.then ?_ hb9 (by first | omega | (simp; done) | (simp; omega)) | refine Below.then ?_ hb8 (by first | omega | (simp; done) | (simp; omega)) | refine Below.then ?_ hb7 (by first | omega | (simp; done) | (simp; omega)) | refine Below.then ?_ hb6 (by first | omega | (simp; done) | (simp; omega)) | refine Below.then ?_ hb5 (by first | omega | (simp; done) | (simp; omega)) | refine Below.then ?_ hb4 (by first | omega | (simp; done) | (simp; omega)) | refine Below.then ?_ hb3 (by first | omega | (simp; done) | (simp; omega)) | refine Below.then ?_ hb2 (by first | omega | (simp; done) | (simp; omega)) | refine Below.then ?_ hb1 (by first | omega | (simp; done) | (simp; omega))))) (by first | omega | (simp; done) | (simp; omega))
  replace y5 := hold_fz (w2 := w2) y5 (by (repeat (first | exact Below.refl _ _ | (with_reducible assumption) | refine Below.drew ?_ | refine Below.drewN' ?_ _ | refine Below.alloc ?_ (by first | omega | (simp; done) | (simp; omega)) _ | refine Below.setCell ?_ (by first | omega | (simp; done) | (simp; omega)) _ | refine Below.then ?_ hb9 (by first | omega | (simp; done) | (simp; omega)) | refine Below.then ?_ hb8 (by first | omega | (simp; done) | (simp; omega)) | refine Below.then ?_ hb7 (by first | omega | (simp; done) | (simp; omega)) | refine Below.then ?_ hb6 (by first | omega | (simp; done) | (simp; omega)) | refine Below.then ?_ hb5 (by first | omega | (simp; done) | (simp; omega)) | refine Below.then ?_ hb4 (by first | omega | (simp; done) | (simp; omega)) | refine Below.then ?_ hb3 (by first | omega | (simp; done) | (simp; omega)) | refine Below.then ?_ hb2 (by first | omega | (simp; done) | (simp; omega)) | refine Below.then ?_ hb1 (by first | omega | (simp; done) | (simp; omega))))) (by first | omega | (simp; done) | (simp; omega))
  replace x6 := hold_cell (w2 := w2) x6 (by (repeat (first | exact Below.refl _ _ | (with_reducible assumption) | refine Below.drew ?_ | refine Below.drewN' ?_ _ | refine Below.alloc ?_ (by first | omega | (simp; done) | (simp; omega)) _ | refine Below.setCell ?_ (by first | omega | (simp; done) | (simp; omega)) _ | refine Below.then ?_ hb9 (by first | omega | (simp; done) | (simp; omega)) | refine Below.then ?_ hb8 (by first | omega | (simp; done) | (simp; omega)) | refine Below.then ?_ hb7 (by first | omega | (simp; done) | (simp; omega)) | refine Below.then ?_ hb6 (by first | omega | (simp; done) | (simp; omega)) | refine Below.then ?_ hb5 (by first | omega | (simp; done) | (simp; omega)) | refine Below.then ?_ hb4 (by first | omega | (simp; done) | (simp; omega)) | refine Below.then ?_ hb3 (by first | omega | (simp; done) | (simp; omega)) | refine Below.then ?_ hb2 (by first | omega | (simp; done) | (simp; omega)) | refine Below.then ?_ hb1 (by first | omega | (simp; done) | (simp; omega))))) (by first | omega | (simp; done) | (simp; omega))
  replace y6 := hold_fz (w2 := w2) y6 (by (repeat (first | exact Below.refl _ _ | (with_reducible assumption) | refine Below.drew ?_ | refine Below.drewN' ?_ _ | refine Below.alloc ?_ (by first | omega | (simp; done) | (simp; omega)) _ | refine Below.setCell ?_ (by first | omega | (simp; done) | (simp; omega)) _ | refine Below.then ?_ hb9 (by first | omega | (simp; done) | (simp; omega)) | refine Below.then ?_ hb8 (by first | omega | (simp; done) | (simp; omega)) | refine Below.then ?_ hb7 (by first | omega | (simp; done) | (simp; omega)) | refine Below.then ?_ hb6 (by first | omega | (simp; done) | (simp; omega)) | refine Below.then ?_ hb5 (by first | omega | (simp; done) | (simp; omega)) | refine Below.then ?_ hb4 (by first | omega | (simp; done) | (simp; omega)) | refine Below.then ?_ hb3 (by first | omega | (simp; done) | (simp; omega)) | refine Below.then ?_ hb2 (by first | omega | (simp; done) | (simp; omega)) | refine Below.then ?_ hb1 (by first | omega | (simp; done) | (simp; omega))))) (by first | omega | (simp; done) | (simp; omega))
  replace x7 := hold_cell (w2 := w2) x7 (by (repeat (first | exact Below.refl _ _ | (with_reducible assumption) | refine Below.drew ?_ | refine Below.drewN' ?_ _ | refine Below.alloc ?_ (by first | omega | (simp; done) | (simp; omega)) _ | refine Below.setCell ?_ (by first | omega | (simp; done) | (simp; omega)) _ | refine Below.then ?_ hb9 (by first | omega | (simp; done) | (simp; omega)) | refine Below.then ?_ hb8 (by first | omega | (simp; done) | (simp; omega)) | refine Below.then ?_ hb7 (by first | omega | (simp; done) | (simp; omega)) | refine Below.then ?_ hb6 (by first | omega | (simp; done) | (simp; omega)) | refine Below.then ?_ hb5 (by first | omega | (simp; done) | (simp; omega)) | refine Below.then ?_ hb4 (by first | omega | (simp; done) | (simp; omega)) | refine Below.then ?_ hb3 (by first | omega | (simp; done) | (simp; omega)) | refine Below.then ?_ hb2 (by first | omega | (simp; done) | (simp; omega)) | refine Below.then ?_ hb1 (by first | omega | (simp; done) | (simp; omega))))) (by first | omega | (simp; done) | (simp; omega))
  replace y7 := hold_fz (w2 := w2) y7 (by (repeat (first | exact Below.refl _ _ | (with_reducible assumption) | refine Below.drew ?_ | refine Below.drewN' ?_ _ | refine Below.alloc ?_ (by first | omega | (simp; done) | (simp; omega)) _ | refine Below.setCell ?_ (by first | omega | (simp; done) | (simp; omega)) _ | refine Below.then ?_ hb9 (by first | omega | (simp; done) | (simp; omega)) | refine Below.then ?_ hb8 (by first | omega | (simp; done) | (simp; omega)) | refine Below.then ?_ hb7 (by first | omega | (simp; done) | (simp; omega)) | refine Below.then ?_ hb6 (by first | omega | (simp; done) | (simp; omega)) | refine Below.then ?_ hb5 (by first | omega | (simp; done) | (simp; omega)) | refine Below.then ?_ hb4 (by first | omega | (simp; done) | (simp; omega)) | refine Below.then ?_ hb3 (by first | omega | (simp; done) | (simp; omega)) | refine Below.then ?_ hb2 (by first | omega | (simp; done) | (simp; omega)) | refine Below.then ?_ hb1 (by first | omega | (simp; done) | (simp; omega))))) (by first | omega | (simp; done) | (simp; omega))
  replace x8 := hold_cell (w2 := w2) x8 (by (repeat (first | exact Below.refl _ _ | (with_reducible assumption) | refine Below.drew ?_ | refine Below.drewN' ?_ _ | refine Below.alloc ?_ (by first | omega | (simp; done) | (simp; omega)) _ | refine Below.setCell ?_ (by first | omega | (simp; done) | (simp; omega)) _ | refine Below.then ?_ hb9 (by first | omega | (simp; done) | (simp; omega)) | refine Below.then ?_ hb8 (by first | omega | (simp; done) | (simp; omega)) | refine Below.then ?_ hb7 (by first | omega | (simp; done) | (simp; omega)) | refine Below.then ?_ hb6 (by first | omega | (simp; done) | (simp; omega)) | refine Below.then ?_ hb5 (by first | omega | (simp; done) | (simp; omega)) | refine Below.then ?_ hb4 (by first | omega | (simp; done) | (simp; omega)) | refine Below.then ?_ hb3 (by first | omega | (simp; done) | (simp; omega)) | refine Below.then ?_ hb2 (by first | omega | (simp; done) | (simp; omega)) | refine Below.then ?_ hb1 (by first | omega | (simp; done) | (simp; omega))))) (by first | omega | (simp; done) | (simp; omega))
  replace y8 := hold_fz (w2 := w2) y8 (by (repeat (first | exact Below.refl _ _ | (with_reducible assumption) | refine Below.drew ?_ | refine Below.drewN' ?_ _ | refine Below.alloc ?_ (by first | omega | (simp; done) | (simp; omega)) _ | refine Below.setCell ?_ (by first | omega | (simp; done) | (simp; omega)) _ | refine Below.then ?_ hb9 (by first | omega | (simp; done) | (simp; omega)) | refine Below.then ?_ hb8 (by first | omega | (simp; done) | (simp; omega)) | refine Below.then ?_ hb7 (by first | omega | (simp; done) | (simp; omega)) | refine Below.then ?_ hb6 (by first | omega | (simp; done) | (simp; omega)) | refine Below.then ?_ hb5 (by first | omega | (simp; done) | (simp; omega)) | refine Below.then ?_ hb4 (by first | omega | (simp; done) | (simp; omega)) | refine Below.then ?_ hb3 (by first | omega | (simp; done) | (simp; omega)) | refine Below.then ?_ hb2 (by first | omega | (simp; done) | (simp; omega)) | refine Below.then ?_ hb1 (by first | omega | (simp; done) | (simp; omega))))) (by first | omega | (simp; done) | (simp; omega))
  replace x9 := hold_cell (w2 := w2) x9 (by (repeat (first | exact Below.refl _ _ | (with_reducible assumption) | refine Below.drew ?_ | refine Below.drewN' ?_ _ | refine Below.alloc ?_ (by first | omega | (simp; done) | (simp; omega)) _ | refine Below.setCell ?_ (by first | omega | (simp; done) | (simp; omega)) _ | refine Below.then ?_ hb9 (by first | omega | (simp; done) | (simp; omega)) | refine Below.then ?_ hb8 (by first | omega | (simp; done) | (simp; omega)) | refine Below.then ?_ hb7 (by first | omega | (simp; done) | (simp; omega)) | refine Below.then ?_ hb6 (by first | omega | (simp; done) | (simp; omega)) | refine Below.then ?_ hb5 (by first | omega | (simp; done) | (simp; omega)) | refine Below.then ?_ hb4 (by first | omega | (simp; done) | (simp; omega)) | refine Below.then ?_ hb3 (by first | omega | (simp; done) | (simp; omega)) | refine Below.then ?_ hb2 (by first | omega | (simp; done) | (simp; omega)) | refine Below.then ?_ hb1 (by first | omega | (simp; done) | (simp; omega))))) (by first | omega | (simp; done) | (simp; omega))
  replace y9 := hold_fz (w2 := w2) y9 (by (repeat (first | exact Below.refl _ _ | (with_reducible assumption) | refine Below.drew ?_ | refine Below.drewN' ?_ _ | refine Below.alloc ?_ (by first | omega | (simp; done) | (simp; omega)) _ | refine Below.setCell ?_ (by first | omega | (simp; done) | (simp; omega)) _ | refine Below.then ?_ hb9 (by first | omega | (simp; done) | (simp; omega)) | refine Below.then ?_ hb8 (by first | omega | (simp; done) | (simp; omega)) | refine Below.then ?_ hb7 (by first | omega | (simp; done) | (simp; omega)) | refine Below.then ?_ hb6 (by first | omega | (simp; done) | (simp; omega)) | refine Below.then ?_ hb5 (by first | omega | (simp; done) | (simp; omega)) | refine Below.then ?_ hb4 (by first | omega | (simp; done) | (simp; omega)) | refine Below.then ?_ hb3 (by first | omega | (simp; done) | (simp; omega)) | refine Below.then ?_ hb2 (by first | omega | (simp; done) | (simp; omega)) | refine Below.then ?_ hb1 (by first | omega | (simp; done) | (simp; omega))))) (by first | omega | (simp; done) | (simp; omega))
  replace x10 := hold_cell (w2 := w2) x10 (by (repeat (first | exact Below.refl _ _ | (with_reducible assumption) | refine Below.drew ?_ | refine Below.drewN' ?_ _ | refine Below.alloc ?_ (by first | omega | (simp; done) | (simp; omega)) _ | refine Below.setCell ?_ (by first | omega | (simp; done) | (simp; omega)) _ | refine Below.then ?_ hb9 (by first | omega | (simp; done) | (simp; omega)) | refine Below.then ?_ hb8 (by first | omega | (simp; done) | (simp; omega)) | refine Below.then ?_ hb7 (by first | omega | (simp; done) | (simp; omega)) | refine Below.then ?_ hb6 (by first | omega | (simp; done) | (simp; omega)) | refine Below.then ?_ hb5 (by first | omega | (simp; done) | (simp; omega)) | refine Below.then ?_ hb4 (by first | omega | (simp; done) | (simp; omega)) | refine Below.then ?_ hb3 (by first | omega | (simp; done) | (simp; omega)) | refine Below.then ?_ hb2 (by first | omega | (simp; done) | (simp; omega)) | refine Below.then ?_ hb1 (by first | omega | (simp; done) | (simp; omega))))) (by first | omega | (simp; done) | (simp; omega))
  replace y10 := hold_fz (w2 := w2) y10 (by (repeat (first | exact Below.refl _ _ | (with_reducible assumption) | refine Below.drew ?_ | refine Below.drewN' ?_ _ | refine Below.alloc ?_ (by first | omega | (simp; done) | (simp; omega)) _ | refine Below.setCell ?_ (by first | omega | (simp; done) | (simp; omega)) _ | refine Below.then ?_ hb9 (by first | omega | (simp; done) | (simp; omega)) | refine Below.then ?_ hb8 (by first | omega | (simp; done) | (simp; omega)) | refine Below.then ?_ hb7 (by first | omega | (simp; done) | (simp; omega)) | refine Below.then ?_ hb6 (by first | omega | (simp; done) | (simp; omega)) | refine Below.then ?_ hb5 (by first | omega | (simp; done) | (simp; omega)) | refine Below.then ?_ hb4 (by first | omega | (simp; done) | (simp; omega)) | refine Below.then ?_ hb3 (by first | omega | (simp; done) | (simp; omega)) | refine Below.then ?_ hb2 (by first | omega | (simp; done) | (simp; omega)) | refine Below.then ?_ hb1 (by first | omega | (simp; done) | (simp; omega))))) (by first | omega | (simp; done) | (simp; omega))
  replace x11 := hold_cell (w2 := w2) x11 (by (repeat (first | exact Below.refl _ _ | (with_reducible assumption) | refine Below.drew ?_ | refine Below.drewN' ?_ _ | refine Below.alloc ?_ (by first | omega | (simp; done) | (simp; omega)) _ | refine Below.setCell ?_ (by first | omega | (simp; done) | (simp; omega)) _ | refine Below.then ?_ hb9 (by first | omega | (simp; done) | (simp; omega)) | refine Below.then ?_ hb8 (by first | omega | (simp; done) | (simp; omega)) | refine Below.then ?_ hb7 (by first | omega | (simp; done) | (simp; omega)) | refine Below.then ?_ hb6 (by first | omega | (simp; done) | (simp; omega)) | refine Below.then ?_ hb5 (by first | omega | (simp; done) | (simp; omega)) | refine Below.then ?_ hb4 (by first | omega | (simp; done) | (simp; omega)) | refine Below.then ?_ hb3 (by first | omega | (simp; done) | (simp; omega)) | refine Below.then ?_ hb2 (by first | omega | (simp; done) | (simp; omega)) | refine Below.then ?_ hb1 (by first | omega | (simp; done) | (simp; omega))))) (by first | omega | (simp; done) | (simp; omega))
  replace y11 := hold_fz (w2 := w2) y11 (by (repeat (first | exact Below.refl _ _ | (with_reducible assumption) | refine Below.drew ?_ | refine Below.drewN' ?_ _ | refine Below.alloc ?_ (by first | omega | (simp; done) | (simp; omega)) _ | refine Below.setCell ?_ (by first | omega | (simp; done) | (simp; omega)) _ | refine Below.then ?_ hb9 (by first | omega | (simp; done) | (simp; omega)) | refine Below.then ?_ hb8 (by first | omega | (simp; done) | (simp; omega)) | refine Below.then ?_ hb7 (by first | omega | (simp; done) | (simp; omega)) | refine Below.then ?_ hb6 (by first | omega | (simp; done) | (simp; omega)) | refine Below.then ?_ hb5 (by first | omega | (simp; done) | (simp; omega)) | refine Below.then ?_ hb4 (by first | omega | (simp; done) | (simp; omega)) | refine Below.then ?_ hb3 (by first | omega | (simp; done) | (simp; omega)) | refine Below.then ?_ hb2 (by first | omega | (simp; done) | (simp; omega)) | refine Below.then ?_ hb1 (by first | omega | (simp; done) | (simp; omega))))) (by first | omega | (simp; done) | (simp; omega))
  replace x12 := hold_cell (w2 := w2) x12 (by (repeat (first | exact Below.refl _ _ | (with_reducible assumption) | refine Below.drew ?_ | refine Below.drewN' ?_ _ | refine Below.alloc ?_ (by first | omega | (simp; done) | (simp; omega)) _ | refine Below.setCell ?_ (by first | omega | (simp; done) | (simp; omega)) _ | refine Below.then ?_ hb9 (by first | omega | (simp; done) | (simp; omega)) | refine Below.then ?_ hb8 (by first | omega | (simp; done) | (simp; omega)) | refine Below.then ?_ hb7 (by first | omega | (simp; done) | (simp; omega)) | refine Below.then ?_ hb6 (by first | omega | (simp; done) | (simp; omega)) | refine Below.then ?_ hb5 (by first | omega | (simp; done) | (simp; omega)) | refine Below.then ?_ hb4 (by first | omega | (simp; done) | (simp; omega)) | refine Below.then ?_ hb3 (by first | omega | (simp; done) | (simp; omega)) | refine Below.then ?_ hb2 (by first | omega | (simp; done) | (simp; omega)) | refine Below.then ?_ hb1 (by first | omega | (simp; done) | (simp; omega))))) (by first | omega | (simp; done) | (simp; omega))
  replace y12 := hold_fz (w2 := w2) y12 (by (repeat (first | exact Below.refl _ _ | (with_reducible assumption) | refine Below.drew ?_ | refine Below.drewN' ?_ _ | refine Below.alloc ?_ (by first | omega | (simp; done) | (simp; omega)) _ | refine Below.setCell ?_ (by first | omega | (simp; done) | (simp; omega)) _ | refine Below.then ?_ hb9 (by first | omega | (simp; done) | (simp; omega)) | refine Below.then ?_ hb8 (by first | omega | (simp; done) | (simp; omega)) | refine Below.then ?_ hb7 (by first | omega | (simp; done) | (simp; omega)) | refine Below.then ?_ hb6 (by first | omega | (simp; done) | (simp; omega)) | refine Below.then ?_ hb5 (by first | omega | (simp; done) | (simp; omega)) | refine Below.then ?_ hb4 (by first | omega | (simp; done) | (simp; omega)) | refine Below.then ?_ hb3 (by first | omega | (simp; done) | (simp; omega)) | refine Below.then ?_ hb2 (by first | omega | (simp; done) | (simp; omega)) | refine Below.then ?_ hb1 (by first | omega | (simp; done) | (simp; omega))))) (by first | omega | (simp; done) | (simp; omega))
  have X2 := blk_below X1 hb2
  have lx2 : w.heap.size + 1 < w2.heap.size := by omega
  have hb02 : Below w.heap.size w w2 := Below.then hb01 hb2 (by omega)
  clear hb1 hb2 hb01 lx lq q0 q1 q2
  go_wp2_with fail
  have z0 : (w2.alloc (.cells #[.int .i64 0, .int .i64 0, .int .i64 0, .int .i64 0, .int .i64 0, .int .i64 0, .int .i64 0, .int .u64 0, .int .u64 0, .int .u64 0, .int .u64 0, .int .u64 0, .int .u64 0] 90)).heap[w2.heap.size]? = some (.cells #[.int .i64 0, .int .i64 0, .int .i64 0, .int .i64 0, .int .i64 0, .int .i64 0, .int .i64 0, .int .u64 0, .int .u64 0, .int .u64 0, .int .u64 0, .int .u64 0, .int .u64 0] 90 (0, 0)) := (MapKept.heap_alloc w2 _).1
  have hb3 : Below w2.heap.size w2 (w2.alloc (.cells #[.int .i64 0, .int .i64 0, .int .i64 0, .int .i64 0, .int .i64 0, .int .i64 0, .int .i64 0, .int .u64 0, .int .u64 0, .int .u64 0, .int .u64 0, .int .u64 0, .int .u64 0] 90)) := (Below.refl _ _).alloc (Nat.le_refl _) _
  generalize w2.alloc (.cells #[.int .i64 0, .int .i64 0, .int .i64 0, .int .i64 0, .int .i64 0, .int .i64 0, .int .i64 0, .int .u64 0, .int .u64 0, .int .u64 0, .int .u64 0, .int .u64 0, .int .u64 0] 90) = w3 at z0 hb3 ⊢
  have hz3 := hb3.size
  replace x0 := hold_cell (w2 := w3) x0 (by (repeat (first | exact Below.refl _ _ | (with_reducible assumption) | refine Below.drew ?_ | refine Below.drewN' ?_ _ | refine Below.alloc ?_ (by first | omega | (simp; done) | (simp; omega)) _ | refine Below.setCell ?_ (by first | omega | (simp; done) | (simp; omega)) _ | refine Below.then ?_ hb9 (by first | omega | (simp; done) | (simp; omega)) | refine Below.then ?_ hb8 (by first | omega | (simp; done) | (simp; omega)) | refine Below.then ?_ hb7 (by first | omega | (simp; done) | (simp; omega)) | refine Below.then ?_ hb6 (by first | omega | (simp; done) | (simp; omega)) | refine Below.then ?_ hb5 (by first | omega | (simp; done) | (simp; omega)) | refine Below.then ?_ hb4 (by first | omega | (simp; done) | (simp; omega)) | refine Below.then ?_ hb3 (by first | omega | (simp; done) | (simp; omega)) | refine Below.then ?_ hb2 (by first | omega | (simp; done) | (simp; omega)) | refine Below.then ?_ hb1 (by first | omega | (simp; done) | (simp; omega))))) (by first | omega | (simp; done) | (simp; omega))
  replace y0 := hold_fz (w2 := w3) y0 (by (repeat (first | exact Below.refl _ _ | (with_reducible assumption) | refine Below.drew ?_ | refine Below.drewN' ?_ _ | refine Below.alloc ?_ (by first | omega | (simp; done) | (simp; omega)) _ | refine Below.setCell ?_ (by first | omega | (simp; done) | (simp; omega)) _ | refine Below.then ?_ hb9 (by first | omega | (simp; done) | (simp; omega)) | refine Below.then ?_ hb8 (by first | omega | (simp; done) | (simp; omega)) | refine Below.then ?_ hb7 (by first | omega | (simp; done) | (simp; omega)) | refine Below.then ?_ hb6 (by first | omega | (simp; done) | (simp; omega)) | refine Below.then ?_ hb5 (by first | omega | (simp; done) | (simp; omega)) | refine Below.then ?_ hb4 (by first | omega | (simp; done) | (simp; omega)) | refine Below.then ?_ hb3 (by first | omega | (simp; done) | (simp; omega)) | refine Below.then ?_ hb2 (by first | omega | (simp; done) | (simp; omega)) | refine Below.then ?_ hb1 (by first | omega | (simp; done) | (simp; omega))))) (by first | omega | (simp; done) | (simp; omega))
  replace x1 := hold_cell (w2 := w3) x1 (by (repeat (first | exact Below.refl _ _ | (with_reducible assumption) | refine Below.drew ?_ | refine Below.drewN' ?_ _ | refine Below.alloc ?_ (by first | omega | (simp; done) | (simp; omega)) _ | refine Below.setCell ?_ (by first | omega | (simp; done) | (simp; omega)) _ | refine Below.then ?_ hb9 (by first | omega | (simp; done) | (simp; omega)) | refine Below.then ?_ hb8 (by first | omega | (simp; done) | (simp; omega)) | refine Below.then ?_ hb7 (by first | omega | (simp; done) | (simp; omega)) | refine Below.then ?_ hb6 (by first | omega | (simp; done) | (simp; omega)) | refine Below.then ?_ hb5 (by first | omega | (simp; done) | (simp; omega)) | refine Below.then ?_ hb4 (by first | omega | (simp; done) | (simp; omega)) | refine Below.then ?_ hb3 (by first | omega | (simp; done) | (simp; omega)) | refine Below.then ?_ hb2 (by first | omega | (simp; done) | (simp; omega)) | refine Below.then ?_ hb1 (by first | omega | (simp; done) | (simp; omega))))) (by first | omega | (simp; done) | (simp; omega))
  replace y1 := hold_fz (w2 := w3) y1 (by (repeat (first | exact Below.refl _ _ | (with_reducible assumption) | refine Below.drew ?_ | refine Below.drewN' ?_ _ | refine Below.alloc ?_ (by first | omega | (simp; done) | (simp; omega)) _ | refine Below.setCell ?_ (by first | omega | (simp; done) | (simp; omega)) _ | refine Below.then ?_ hb9 (by first | omega | (simp; done) | (simp; omega)) | refine Below.then ?_ hb8 (by first | omega | (simp; done) | (simp; omega)) | refine Below.then ?_ hb7 (by first | omega | (simp; done) | (simp; omega)) | refine Below.then ?_ hb6 (by first | omega | (simp; done) | (simp; omega)) | refine Below.then ?_ hb5 (by first | omega | (simp; done) | (simp; omega)) | refine Below.then ?_ hb4 (by first | omega | (simp; done) | (simp; omega)) | refine Below.then ?_ hb3 (by first | omega | (simp; done) | (simp; omega)) | refine Below.then ?_ hb2 (by first | omega | (simp; done) | (simp; omega)) | refine Below.then ?_ hb1 (by first | omega | (simp; done) | (simp; omega))))) (by first | omega | (simp; done) | (simp; omega))
  replace x2 := hold_cell (w2 := w3) x2 (by (repeat (first | exact Below.refl _ _ | (with_reducible assumption) | refine Below.drew ?_ | refine Below.drewN' ?_ _ | refine Below.alloc ?_ (by first | omega | (simp; done) | (simp; omega)) _ | refine Below.setCell ?_ (by first | omega | (simp; done) | (simp; omega)) _ | refine Below.then ?_ hb9 (by first | omega | (simp; done) | (simp; omega)) | refine Below.then ?_ hb8 (by first | omega | (simp; done) | (simp; omega)) | refine Below.then ?_ hb7 (by first | omega | (simp; done) | (simp; omega)) | refine Below.then ?_ hb6 (by first | omega | (simp; done) | (simp; omega)) | refine Below.then ?_ hb5 (by first | omega | (simp; done) | (simp; omega)) | refine Below.then ?_ hb4 (by first | omega | (simp; done) | (simp; omega)) | refine Below.then ?_ hb3 (by first | omega | (simp; done) | (simp; omega)) | refine Below.then ?_ hb2 (by first | omega | (simp; done) | (simp; omega)) | refine Below.then ?_ hb1 (by first | omega | (simp; done) | (simp; omega))))) (by first | omega | (simp; done) | (simp; omega))
  replace y2 := hold_fz (w2 := w3) y2 (by (repeat (first | exact Below.refl _ _ | (with_reducible assumption) | refine Below.drew ?_ | refine Below.drewN' ?_ _ | refine Below.alloc ?_ (by first | omega | (simp; done) | (simp; omega)) _ | refine Below.setCell ?_ (by first | omega | (simp; done) | (simp; omega)) _ | refine Below.then ?_ hb9 (by first | omega | (simp; done) | (simp; omega)) | refine Below.then ?_ hb8 (by first | omega | (simp; done) | (simp; omega)) | refine Below.then ?_ hb7 (by first | omega | (simp; done) | (simp; omega)) | refine Below.then ?_ hb6 (by first | omega | (simp; done) | (simp; omega)) | refine Below.then ?_ hb5 (by first | omega | (simp; done) | (simp; omega)) | refine Below.then ?_ hb4 (by first | omega | (simp; done) | (simp; omega)) | refine Below.then ?_ hb3 (by first | omega | (simp; done) | (simp; omega)) | refine Below.then ?_ hb2 (by first | omega | (simp; done) | (simp; omega)) | refine Below.then ?_ hb1 (by first | omega | (simp; done) | (simp; omega))))) (by first | omega | (simp; done) | (simp; omega))
  replace x3 := hold_cell (w2 := w3) x3 (by (repeat (first | exact Below.refl _ _ | (with_reducible assumption) | refine Below.drew ?_ | refine Below.drewN' ?_ _ | refine Below.alloc ?_ (by first | omega | (simp; done) | (simp; omega)) _ | refine Below.setCell ?_ (by first | omega | (simp; done) | (simp; omega)) _ | refine Below.then ?_ hb9 (by first | omega | (simp; done) | (simp; omega)) | refine Below.then ?_ hb8 (by first | omega | (simp; done) | (simp; omega)) | refine Below.then ?_ hb7 (by first | omega | (simp; done) | (simp; omega)) | refine Below.then ?_ hb6 (by first | omega | (simp; done) | (simp; omega)) | refine Below.then ?_ hb5 (by first | omega | (simp; done) | (simp; omega)) | refine Below.then ?_ hb4 (by first | omega | (simp; done) | (simp; omega)) | refine Below.then ?_ hb3 (by first | omega | (simp; done) | (simp; omega)) | refine Below.then ?_ hb2 (by first | omega | (simp; done) | (simp; omega)) | refine Below.then ?_ hb1 (by first | omega | (simp; done) | (simp; omega))))) (by first | omega | (simp; done) | (simp; omega))
  replace y3 := hold_fz (w2 := w3) y3 (by (repeat (first | exact Below.refl _ _ | (with_reducible assumption) | refine Below.drew ?_ | refine Below.drewN' ?_ _ | refine Below.alloc ?_ (by first | omega | (simp; done) | (simp; omega)) _ | refine Below.setCell ?_ (by first | omega | (simp; done) | (simp; omega)) _ | refine Below.then ?_ hb9 (by first | omega | (simp; done) | (simp; omega)) | refine Below.then ?_ hb8 (by first | omega | (simp; done) | (simp; omega)) | refine Below.then ?_ hb7 (by first | omega | (simp; done) | (simp; omega)) | refine Below.then ?_ hb6 (by first | omega | (simp; done) | (simp; omega)) | refine Below.then ?_ hb5 (by first | omega | (simp; done) | (simp; omega)) | refine Below.then ?_ hb4 (by first | omega | (simp; done) | (simp; omega)) | refine Below.then ?_ hb3 (by first | omega | (simp; done) | (simp; omega)) | refine Below.then ?_ hb2 (by first | omega | (simp; done) | (simp; omega)) | refine Below.then ?_ hb1 (by first | omega | (simp; done) | (simp; omega))))) (by first | omega | (simp; done) | (simp; omega))
  replace x4 := hold_cell (w2 := w3) x4 (by (repeat (first | exact Below.refl _ _ | (with_reducible assumption) | refine Below.drew ?_ | refine Below.drewN' ?_ _ | refine Below.alloc ?_ (by first | omega | (simp; done) | (simp; omega)) _ | refine Below.setCell ?_ (by first | omega | (simp; done) | (simp; omega)) _ | refine Below.then ?_ hb9 (by first | omega | (simp; done) | (simp; omega)) | refine Below.then ?_ hb8 (by first | omega | (simp; done) | (simp; omega)) | refine Below.then ?_ hb7 (by first | omega | (simp; done) | (simp; omega)) | refine Below.then ?_ hb6 (by first | omega | (simp; done) | (simp; omega)) | refine Below.then ?_ hb5 (by first | omega | (simp; done) | (simp; omega)) | refine Below.then ?_ hb4 (by first | omega | (simp; done) | (simp; omega)) | refine Below.then ?_ hb3 (by first | omega | (simp; done) | (simp; omega)) | refine Below.then ?_ hb2 (by first | omega | (simp; done) | (simp; omega)) | refine Below.then ?_ hb1 (by first | omega | (simp; done) | (simp; omega))))) (by first | omega | (simp; done) | (simp; omega))
  replace y4 := hold_fz (w2 := w3) y4 (by (repeat (first | exact Below.refl _ _ | (with_reducible assumption) | refine Below.drew ?_ | refine Below.drewN' ?_ _ | refine Below.alloc ?_ (by first | omega | (simp; done) | (simp; omega)) _ | refine Below.setCell ?_ (by first | omega | (simp; done) | (simp; omega)) _ | refine Below.then ?_ hb9 (by first | omega | (simp; done) | (simp; omega)) | refine Below.then ?_ hb8 (by first | omega | (simp; done) | (simp; omega)) | refine Below.then ?_ hb7 (by first | omega | (simp; done) | (simp; omega)) | refine Below.then ?_ hb6 (by first | omega | (simp; done) | (simp; omega)) | refine Below.then ?_ hb5 (by first | omega | (simp; done) | (simp; omega)) | refine Below.then ?_ hb4 (by first | omega | (simp; done) | (simp; omega)) | refine Below.then ?_ hb3 (by first | omega | (simp; done) | (simp; omega)) | refine Below.then ?_ hb2 (by first | omega | (simp; done) | (simp; omega)) | refine Below.then ?_ hb1 (by first | omega | (simp; done) | (simp; omega))))) (by first | omega | (simp; done) | (simp; omega))
  replace x5 := hold_cell (w2 := w3) x5 (by (repeat (first | exact Below.refl _ _ | (with_reducible assumption) | refine Below.drew ?_ | refine Below.drewN' ?_ _ | refine Below.alloc ?_ (by first | omega | (simp; done) | (simp; omega)) _ | refine Below.setCell ?_ (by first | omega | (simp; done) | (simp; omega)) _ | refine Below.then ?_ hb9 (by first | omega | (simp; done) | (simp; omega)) | refine Below.then ?_ hb8 (by first | omega | (simp; done) | (simp; omega)) | refine Below.then ?_ hb7 (by first | omega | (simp; done) | (simp; omega)) | refine Below.then ?_ hb6 (by first | omega | (simp; done) | (simp; omega)) | refine Below.then ?_ hb5 (by first | omega | (simp; done) | (simp; omega)) | refine Below.then ?_ hb4 (by first | omega | (simp; done) | (simp; omega)) | refine Below.then ?_ hb3 (by first | omega | (simp; done) | (simp; omega)) | refine Below.then ?_ hb2 (by first | omega | (simp; done) | (simp; omega)) | refine Below.then ?_ hb1 (by first | omega | (simp; done) | (simp; omega))))) (by first | omega | (simp; done) | (simp; omega))
  replace y5 := hold_fz (w2 := w3) y5 (by (repeat (first | exact Below.refl _ _ | (with_reducible assumption) | refine Below.drew ?_ | refine Below.drewN' ?_ _ | refine Below.alloc ?_ (by first | omega | (simp; done) | (simp; omega)) _ | refine Below.setCell ?_ (by first | omega | (simp; done) | (simp; omega)) _ | refine Below.then ?_ hb9 (by first | omega | (simp; done) | (simp; omega)) | refine Below.then ?_ hb8 (by first | omega | (simp; done) | (simp; omega)) | refine Below.then ?_ hb7 (by first | omega | (simp; done) | (simp; omega)) | refine Below.then ?_ hb6 (by first | omega | (simp; done) | (simp; omega)) | refine Below.then ?_ hb5 (by first | omega | (simp; done) | (simp; omega)) | refine Below.then ?_ hb4 (by first | omega | (simp; done) | (simp; omega)) | refine Below.then ?_ hb3 (by first | omega | (simp; done) | (simp; omega)) | refine Below.then ?_ hb2 (by first | omega | (simp; done) | (simp; omega)) | refine Below.then ?_ hb1 (by first | omega | (simp; done) | (simp; omega))))) (by first | omega | (simp; done) | (simp; omega))
  replace x6 := hold_cell (w2 := w3) x6 (by (repeat (first | exact Below.refl _ _ | (with_reducible assumption) | refine Below.drew ?_ | refine Below.drewN' ?_ _ | refine Below.alloc ?_ (by first | omega | (simp; done) | (simp; omega)) _ | refine Below.setCell ?_ (by first | omega | (simp; done) | (simp; omega)) _ | refine Below.then ?_ hb9 (by first | omega | (simp; done) | (simp; omega)) | refine Below.then ?_ hb8 (by first | omega | (simp; done) | (simp; omega)) | refine Below.then ?_ hb7 (by first | omega | (simp; done) | (simp; omega)) | refine Below.then ?_ hb6 (by first | omega | (simp; done) | (simp; omega)) | refine Below.then ?_ hb5 (by first | omega | (simp; done) | (simp; omega)) | refine Below.then ?_ hb4 (by first | omega | (simp; done) | (simp; omega)) | refine Below.then ?_ hb3 (by first | omega | (simp; done) | (simp; omega)) | refine Below.then ?_ hb2 (by first | omega | (simp; done) | (simp; omega)) | refine Below.then ?_ hb1 (by first | omega | (simp; done) | (simp; omega))))) (by first | omega | (simp; done) | (simp; omega))
  replace y6 := hold_fz (w2 := w3) y6 (by (repeat (first | exact Below.refl _ _ | (with_reducible assumption) | refine Below.drew ?_ | refine Below.drewN' ?_ _ | refine Below.alloc ?_ (by first | omega | (simp; done) | (simp; omega)) _ | refine Below.setCell ?_ (by first | omega | (simp; done) | (simp; omega)) _ | refine Below.then ?_ hb9 (by first | omega | (simp; done) | (simp; omega)) | refine Below.then ?_ hb8 (by first | omega | (simp; done) | (simp; omega)) | refine Below.then ?_ hb7 (by first | omega | (simp; done) | (simp; omega)) | refine Below.then ?_ hb6 (by first | omega | (simp; done) | (simp; omega)) | refine Below.then ?_ hb5 (by first | omega | (simp; done) | (simp; omega)) | refine Below.then ?_ hb4 (by first | omega | (simp; done) | (simp; omega)) | refine Below.then ?_ hb3 (by first | omega | (simp; done) | (simp; omega)) | refine Below.then ?_ hb2 (by first | omega | (simp; done) | (simp; omega)) | refine Below.then ?_ hb1 (by first | omega | (simp; done) | (simp; omega))))) (by first | omega | (simp; done) | (simp; omega))
  replace x7 := hold_cell (w2 := w3) x7 (by (repeat (first | exact Below.refl _ _ | (with_reducible assumption) | refine Below.drew ?_ | refine Below.drewN' ?_ _ | refine Below.alloc ?_ (by first | omega | (simp; done) | (simp; omega)) _ | refine Below.setCell ?_ (by first | omega | (simp; done) | (simp; omega)) _ | refine Below.then ?_ hb9 (by first | omega | (simp; done) | (simp; omega)) | refine Below.then ?_ hb8 (by first | omega | (simp; done) | (simp; omega)) | refine Below.then ?_ hb7 (by first | omega | (simp; done) | (simp; omega)) | refine Below.then ?_ hb6 (by first | omega | (simp; done) | (simp; omega)) | refine Below.then ?_ hb5 (by first | omega | (simp; done) | (simp; omega)) | refine Below.then ?_ hb4 (by first | omega | (simp; done) | (simp; omega)) | refine Below.then ?_ hb3 (by first | omega | (simp; done) | (simp; omega)) | refine Below.then ?_ hb2 (by first | omega | (simp; done) | (simp; omega)) | refine Below.then ?_ hb1 (by first | omega | (simp; done) | (simp; omega))))) (by first | omega | (simp; done) | (simp; omega))
  replace y7 := hold_fz (w2 := w3) y7 (by (repeat (first | exact Below.refl _ _ | (with_reducible assumption) | refine Below.drew ?_ | refine Below.drewN' ?_ _ | refine Below.alloc ?_ (by first | omega | (simp; done) | (simp; omega)) _ | refine Below.setCell ?_ (by first | omega | (simp; done) | (simp; omega)) _ | refine Below.then ?_ hb9 (by first | omega | (simp; done) | (simp; omega)) | refine Below.then ?_ hb8 (by first | omega | (simp; done) | (simp; omega)) | refine Below.then ?_ hb7 (by first | omega | (simp; done) | (simp; omega)) | refine Below.then ?_ hb6 (by first | omega | (simp; done) | (simp; omega)) | refine Below.then ?_ hb5 (by first | omega | (simp; done) | (simp; omega)) | refine Below.then ?_ hb4 (by first | omega | (simp; done) | (simp; omega)) | refine Below.then ?_ hb3 (by first | omega | (simp; done) | (simp; omega)) | refine Below.then ?_ hb2 (by first | omega | (simp; done) | (simp; omega)) | refine Below.then ?_ hb1 (by first | omega | (simp; done) | (simp; omega))))) (by first | omega | (simp; done) | (simp; omega))
  replace x8 := hold_cell (w2 := w3) x8 (by (repeat (first | exact Below.refl _ _ | (with_reducible assumption) | refine Below.drew ?_ | refine Below.drewN' ?_ _ | refine Below.alloc ?_ (by first | omega | (simp; done) | (simp; omega)) _ | refine Below.setCell ?_ (by first | omega | (simp; done) | (simp; omega)) _ | refine Below.then ?_ hb9 (by first | omega | (simp; done) | (simp; omega)) | refine Below.then ?_ hb8 (by first | omega | (simp; done) | (simp; omega)) | refine Below.then ?_ hb7 (by first | omega | (simp; done) | (simp; omega)) | refine Below.then ?_ hb6 (by first | omega | (simp; done) | (simp; omega)) | refine Below.then ?_ hb5 (by first | omega | (simp; done) | (simp; omega)) | refine Below.then ?_ hb4 (by first | omega | (simp; done) | (simp; omega)) | refine Below.then ?_ hb3 (by first | omega | (simp; done) | (simp; omega)) | refine Below.then ?_ hb2 (by first | omega | (simp; done) | (simp; omega)) | refine Below.then ?_ hb1 (by first | omega | (simp; done) | (simp; omega))))) (by first | omega | (simp; done) | (simp; omega))
  replace y8 := hold_fz (w2 := w3) y8 (by (repeat (first | exact Below.refl _ _ | (with_reducible assumption) | refine Below.drew ?_ | refine Below.drewN' ?_ _ | refine Below.alloc ?_ (by first | omega | (simp; done) | (simp; omega)) _ | refine Below.setCell ?_ (by first | omega | (simp; done) | (simp; omega)) _ | refine Below.then ?_ hb9 (by first | omega | (simp; done) | (simp; omega)) | refine Below.then ?_ hb8 (by first | omega | (simp; done) | (simp; omega)) | refine Below.then ?_ hb7 (by first | omega | (simp; done) | (simp; omega)) | refine Below.then ?_ hb6 (by first | omega | (simp; done) | (simp; omega)) | refine Below.then ?_ hb5 (by first | omega | (simp; done) | (simp; omega)) | refine Below.then ?_ hb4 (by first | omega | (simp; done) | (simp; omega)) | refine Below.then ?_ hb3 (by first | omega | (simp; done) | (simp; omega)) | refine Below.then ?_ hb2 (by first | omega | (simp; done) | (simp; omega)) | refine Below.then ?_ hb1 (by first | omega | (simp; done) | (simp; omega))))) (by first | omega | (simp; done) | (simp; omega))
  replace x9 := hold_cell (w2 := w3) x9 (by (repeat (first | exact Below.refl _ _ | (with_reducible assumption) | refine Below.drew ?_ | refine Below.drewN' ?_ _ | refine Below.alloc ?_ (by first | omega | (simp; done) | (simp; omega)) _ | refine Below.setCell ?_ (by first | omega | (simp; done) | (simp; omega)) _ | refine Below.then ?_ hb9 (by first | omega | (simp; done) | (simp; omega)) | refine Below.then ?_ hb8 (by first | omega | (simp; done) | (simp; omega)) | refine Below.then ?_ hb7 (by first | omega | (simp; done) | (simp; omega)) | refine Below.then ?_ hb6 (by first | omega | (simp; done) | (simp; omega)) | refine Below.then ?_ hb5 (by first | omega | (simp; done) | (simp; omega)) | refine Below.then ?_ hb4 (by first | omega | (simp; done) | (simp; omega)) | refine Below.then ?_ hb3 (by first | omega | (simp; done) | (simp; omega)) | refine Below.then ?_ hb2 (by first | omega | (simp; done) | (simp; omega)) | refine Below.then ?_ hb1 (by first | omega | (simp; done) | (simp; omega))))) (by first | omega | (simp; done) | (simp; omega))
  replace y9 := hold_fz (w2 := w3) y9 (by (repeat (first | exact Below.refl _ _ | (with_reducible assumption) | refine Below.drew ?_ | refine Below.drewN' ?_ _ | refine Below.alloc ?_ (by first | omega | (simp; done) | (simp; omega)) _ | refine Below.setCell ?_ (by first | omega | (simp; done) | (simp; omega)) _ | refine Below.then ?_ hb9 (by first | omega | (simp; done) | (simp; omega)) | refine Below.then ?_ hb8 (by first | omega | (simp; done) | (simp; omega)) | refine Below.then ?_ hb7 (by first | omega | (simp; done) | (simp; omega)) | refine Below.then ?_ hb6 (by first | omega | (simp; done) | (simp; omega)) | refine Below.then ?_ hb5 (by first | omega | (simp; done) | (simp; omega)) | refine Below.then ?_ hb4 (by first | omega | (simp; done) | (simp; omega)) | refine Below.then ?_ hb3 (by first | omega | (simp; done) | (simp; omega)) | refine Below.then ?_ hb2 (by first | omega | (simp; done) | (simp; omega)) | refine Below.then ?_ hb1 (by first | omega | (simp; done) | (simp; omega))))) (by first | omega | (simp; done) | (simp; omega))
  replace x10 := hold_cell (w2 := w3) x10 (by (repeat (first | exact Below.refl _ _ | (with_reducible assumption) | refine Below.drew ?_ | refine Below.drewN' ?_ _ | refine Below.alloc ?_ (by first | omega | (simp; done) | (simp; omega)) _ | refine Below.setCell ?_ (by first | omega | (simp; done) | (simp; omega)) _ | refine Below.then ?_ hb9 (by first | omega | (simp; done) | (simp; omega)) | refine Below.then ?_ hb8 (by first | omega | (simp; done) | (simp; omega)) | refine Below.then ?_ hb7 (by first | omega | (simp; done) | (simp; omega)) | refine Below.then ?_ hb6 (by first | omega | (simp; done) | (simp; omega)) | refine Below.then ?_ hb5 (by first | omega | (simp; done) | (simp; omega)) | refine Below.then ?_ hb4 (by first | omega | (simp; done) | (simp; omega)) | refine Below.then ?_ hb3 (by first | omega | (simp; done) | (simp; omega)) | refine Below.then ?_ hb2 (by first | omega | (simp; done) | (simp; omega)) | refine Below.then ?_ hb1 (by first | omega | (simp; done) | (simp; omega))))) (by first | omega | (simp; done) | (simp; omega))
  replace y10 := hold_fz (w2 := w3) y10 (by (repeat (first | exact Below.refl _ _ | (with_reducible assumption) | refine Below.drew ?_ | refine Below.drewN' ?_ _ | refine Below.alloc ?_ (by first | omega | (simp; done) | (simp; omega)) _ | refine Below.setCell ?_ (by first | omega | (simp; done) | (simp; omega)) _ | refine Below.then ?_ hb9 (by first | omega | (simp; done) | (simp; omega)) | refine Below.then ?_ hb8 (by first | omega | (simp; done) | (simp; omega)) | refine Below.then ?_ hb7 (by first | omega | (simp; done) | (simp; omega)) | refine Below.then ?_ hb6 (by first | omega | (simp; done) | (simp; omega)) | refine Below.then ?_ hb5 (by first | omega | (simp; done) | (simp; omega)) | refine Below.then ?_ hb4 (by first | omega | (simp; done) | (simp; omega)) | refine Below.then ?_ hb3 (by first | omega | (simp; done) | (simp; omega)) | refine Below.then ?_ hb2 (by first | omega | (simp; done) | (simp; omega)) | refine Below.then ?_ hb1 (by first | omega | (simp; done) | (simp; omega))))) (by first | omega | (simp; done) | (simp; omega))
  replace x11 := hold_cell (w2 := w3) x11 (by (repeat (first | exact Below.refl _ _ | (with_reducible assumption) | refine Below.drew ?_ | refine Below.drewN' ?_ _ | refine Below.alloc ?_ (by first | omega | (simp; done) | (simp; omega)) _ | refine Below.setCell ?_ (by first | omega | (simp; done) | (simp; omega)) _ | refine Below.then ?_ hb9 (by first | omega | (simp; done) | (simp; omega)) | refine Below.then ?_ hb8 (by first | omega | (simp; done) | (simp; omega)) | refine Below.then ?_ hb7 (by first | omega | (simp; done) | (simp; omega)) | refine Below.then ?_ hb6 (by first | omega | (simp; done) | (simp; omega)) | refine Below.then ?_ hb5 (by first | omega | (simp; done) | (simp; omega)) | refine Below.then ?_ hb4 (by first | omega | (simp; done) | (simp; omega)) | refine Below.then ?_ hb3 (by first | omega | (simp; done) | (simp; omega)) | refine Below.then ?_ hb2 (by first | omega | (simp; done) | (simp; omega)) | refine Below.then ?_ hb1 (by first | omega | (simp; done) | (simp; omega))))) (by first | omega | (simp; done) | (simp; omega))
  replace y11 := hold_fz (w2 := w3) y11 (by (repeat (first | exact Below.refl _ _ | (with_reducible assumption) | refine Below.drew ?_ | refine Below.drewN' ?_ _ | refine Below.alloc ?_ (by first | omega | (simp; done) | (simp; omega)) _ | refine Below.setCell ?_ (by first | omega | (simp; done) | (simp; omega)) _ | refine Below.then ?_ hb9 (by first | omega | (simp; done) | (simp; omega)) | refine Below.then ?_ hb8 (by first | omega | (simp; done) | (simp; omega)) | refine Below.then ?_ hb7 (by first | omega | (simp; done) | (simp; omega)) | refine Below.then ?_ hb6 (by first | omega | (simp; done) | (simp; omega)) | refine Below.then ?_ hb5 (by first | omega | (simp; done) | (simp; omega)) | refine Below.then ?_ hb4 (by first | omega | (simp; done) | (simp; omega)) | refine Below.then ?_ hb3 (by first | omega | (simp; done) | (simp; omega)) | refine Below.then ?_ hb2 (by first | omega | (simp; done) | (simp; omega)) | refine Below.then ?_ hb1 (by first | omega | (simp; done) | (simp; omega))))) (by first | omega | (simp; done) | (simp; omega))
  replace x12 := hold_cell (w2 := w3) x12 (by (repeat (first | exact Below.refl _ _ | (with_reducible assumption) | refine Below.drew ?_ | refine Below.drewN' ?_ _ | refine Below.alloc ?_ (by first | omega | (simp; done) | (simp; omega)) _ | refine Below.setCell ?_ (by first | omega | (simp; done) | (simp; omega)) _ | refine Below.then ?_ hb9 (by first | omega | (simp; done) | (simp; omega)) | refine Below.then ?_ hb8 (by first | omega | (simp; done) | (simp; omega)) | refine Below.then ?_ hb7 (by first | omega | (simp; done) | (simp; omega)) | refine Below.then ?_ hb6 (by first | omega | (simp; done) | (simp; omega)) | refine Below.then ?_ hb5 (by first | omega | (simp; done) | (simp; omega)) | refine Below.then ?_ hb4 (by first | omega | (simp; done) | (simp; omega)) | refine Below.then ?_ hb3 (by first | omega | (simp; done) | (simp; omega)) | refine Below.then ?_ hb2 (by first | omega | (simp; done) | (simp; omega)) | refine Below.then ?_ hb1 (by first | omega | (simp; done) | (simp; omega))))) (by first | omega | (simp; done) | (simp; omega))
  replace y12 := hold_fz (w2 := w3) y12 (by (repeat (first | exact Below.refl _ _ | (with_reducible assumption) | refine Below.drew ?_ | refine Below.drewN' ?_ _ | refine Below.alloc ?_ (by first | omega | (simp; done) | (simp; omega)) _ | refine Below.setCell ?_ (by first | omega | (simp; done) | (simp; omega)) _ | refine Below.then ?_ hb9 (by first | omega | (simp; done) | (simp; omega)) | refine Below.then ?_ hb8 (by first | omega | (simp; done) | (simp; omega)) | refine Below.then ?_ hb7 (by first | omega | (simp; done) | (simp; omega)) | refine Below.then ?_ hb6 (by first | omega | (simp; done) | (simp; omega)) | refine Below.then ?_ hb5 (by first | omega | (simp; done) | (simp; omega)) | refine Below.then ?_ hb4 (by first | omega | (simp; done) | (simp; omega)) | refine Below.then ?_ hb3 (by first | omega | (simp; done) | (simp; omega)) | refine Below.then ?_ hb2 (by first | omega | (simp; done) | (simp; omega)) | refine Below.then ?_ hb1 (by first | omega | (simp; done) | (simp; omega))))) (by first | omega | (simp; done) | (simp; omega))
  have lx3 : w.heap.size + 1 < w3.heap.size := by omega
  have hb03 : Below w.heap.size w w3 := Below.then hb02 hb3 (by omega)
  have hne : w.heap.size + 1 < w2.heap.size := lx2
  have hzz : w2.heap.size < w3.heap.size := blk_lt z0
  have X3 := blk_below X2 hb3
  generalize w2.heap.size = Z at z0 hne hzz ⊢
  clear hb3 hb02 hz3 lx2 hz2
  refine (HP.out _).mono ?_; rintro e4 w4 ⟨rfl, hb4⟩
  have z4 := blk_below z0 hb4
  have X4 := blk_below X3 hb4
  have hz4 := hb4.size
  replace x0 := hold_cell (w2 := w4) x0 (by (repeat (first | exact Below.refl _ _ | (with_reducible assumption) | refine Below.drew ?_ | refine Below.drewN' ?_ _ | refine Below.alloc ?_ (by first | omega | (simp; done) | (simp; omega)) _ | refine Below.setCell ?_ (by first | omega | (simp; done) | (simp; omega)) _ | refine Below.then ?_ hb9 (by first | omega | (simp; done) | (simp; omega)) | refine Below.then ?_ hb8 (by first | omega | (simp; done) | (simp; omega)) | refine Below.then ?_ hb7 (by first | omega | (simp; done) | (simp; omega)) | refine Below.then ?_ hb6 (by first | omega | (simp; done) | (simp; omega)) | refine Below.then ?_ hb5 (by first | omega | (simp; done) | (simp; omega)) | refine Below.then ?_ hb4 (by first | omega | (simp; done) | (simp; omega)) | refine Below.then ?_ hb3 (by first | omega | (simp; done) | (simp; omega)) | refine Below.then ?_ hb2 (by first | omega | (simp; done) | (simp; omega)) | refine Below.then ?_ hb1 (by first | omega | (simp; done) | (simp; omega))))) (by first | omega | (simp; done) | (simp; omega))
  replace y0 := hold_fz (w2 := w4) y0 (by (repeat (first | exact Below.refl _ _ | (with_reducible assumption) | refine Below.drew ?_ | refine Below.drewN' ?_ _ | refine Below.alloc ?_ (by first | omega | (simp; done) | (simp; omega)) _ | refine Below.setCell ?_ (by first | omega | (simp; done) | (simp; omega)) _ | refine Below.then ?_ hb9 (by first | omega | (simp; done) | (simp; omega)) | refine Below.then ?_ hb8 (by first | omega | (simp; done) | (simp; omega)) | refine Below.then ?_ hb7 (by first | omega | (simp; done) | (simp; omega)) | refine Below.then ?_ hb6 (by first | omega | (simp; done) | (simp; omega)) | refine Below.then ?_ hb5 (by first | omega | (simp; done) | (simp; omega)) | refine Below.then ?_ hb4 (by first | omega | (simp; done) | (simp; omega)) | refine Below.then ?_ hb3 (by first | omega | (simp; done) | (simp; omega)) | refine Below.then ?_ hb2 (by first | omega | (simp; done) | (simp; omega)) | refine Below.then ?_ hb1 (by first | omega | (simp; done) | (simp; omega))))) (by first | omega | (simp; done) | (simp; omega))
  replace x1 := hold_cell (w2 := w4) x1 (by (repeat (first | exact Below.refl _ _ | (with_reducible assumption) | refine Below.drew ?_ | refine Below.drewN' ?_ _ | refine Below.alloc ?_ (by first | omega | (simp; done) | (simp; omega)) _ | refine Below.setCell ?_ (by first | omega | (simp; done) | (simp; omega)) _ | refine Below.then ?_ hb9 (by first | omega | (simp; done) | (simp; omega)) | refine Below.then ?_ hb8 (by first | omega | (simp; done) | (simp; omega)) | refine Below.then ?_ hb7 (by first | omega | (simp; done) | (simp; omega)) | refine Below.then ?_ hb6 (by first | omega | (simp; done) | (simp; omega)) | refine Below.then ?_ hb5 (by first | omega | (simp; done) | (simp; omega)) | refine Below.then ?_ hb4 (by first | omega | (simp; done) | (simp; omega)) | refine Below.then ?_ hb3 (by first | omega | (simp; done) | (simp; omega)) | refine Below.then ?_ hb2 (by first | omega | (simp; done) | (simp; omega)) | refine Below.then ?_ hb1 (by first | omega | (simp; done) | (simp; omega))))) (by first | omega | (simp; done) | (simp; omega))
  replace y1 := hold_fz (w2 := w4) y1 (by (repeat (first | exact Below.refl _ _ | (with_reducible assumption) | refine Below.drew ?_ | refine Below.drewN' ?_ _ | refine Below.alloc ?_ (by first | omega | (simp; done) | (simp; omega)) _ | refine Below.setCell ?_ (by first | omega | (simp; done) | (simp; omega)) _ | refine Below.then ?_ hb9 (by first | omega | (simp; done) | (simp; omega)) | refine Below.then ?_ hb8 (by first | omega | (simp; done) | (simp; omega)) | refine Below.then ?_ hb7 (by first | omega | (simp; done) | (simp; omega)) | refine Below.then ?_ hb6 (by first | omega | (simp; done) | (simp; omega)) | refine Below.then ?_ hb5 (by first | omega | (simp; done) | (simp; omega)) | refine Below.then ?_ hb4 (by first | omega | (simp; done) | (simp; omega)) | refine Below.then ?_ hb3 (by first | omega | (simp; done) | (simp; omega)) | refine Below.then ?_ hb2 (by first | omega | (simp; done) | (simp; omega)) | refine Below.then ?_ hb1 (by first | omega | (simp; done) | (simp; omega))))) (by first | omega | (simp; done) | (simp; omega))
  replace x2 := hold_cell (w2 := w4) x2 (by (repeat (first | exact Below.refl _ _ | (with_reducible assumption) | refine Below.drew ?_ | refine Below.drewN' ?_ _ | refine Below.alloc ?_ (by first | omega | (simp; done) | (simp; omega)) _ | refine Below.setCell ?_ (by first | omega | (simp; done) | (simp; omega)) _ | refine Below.then ?_ hb9 (by first | omega | (simp; done) | (simp; omega)) | refine Below.then ?_ hb8 (by first | omega | (simp; done) | (simp; omega)) | refine Below.then ?_ hb7 (by first | omega | (simp; done) | (simp; omega)) | refine Below.then ?_ hb6 (by first | omega | (simp; done) | (simp; omega)) | refine Below.then ?_ hb5 (by first | omega | (simp; done) | (simp; omega)) | refine Below.then ?_ hb4 (by first | omega | (simp; done) | (simp; omega)) | refine Below.then ?_ hb3 (by first | omega | (simp; done) | (simp; omega)) | refine Below.then ?_ hb2 (by first | omega | (simp; done) | (simp; omega)) | refine Below.then ?_ hb1 (by first | omega | (simp; done) | (simp; omega))))) (by first | omega | (simp; done) | (simp; omega))
  replace y2 := hold_fz (w2 := w4) y2 (by (repeat (first | exact Below.refl _ _ | (with_reducible assumption) | refine Below.drew ?_ | refine Below.drewN' ?_ _ | refine Below.alloc ?_ (by first | omega | (simp; done) | (simp; omega)) _ | refine Below.setCell ?_ (by first | omega | (simp; done) | (simp; omega)) _ | refine Below.then ?_ hb9 (by first | omega | (simp; done) | (simp; omega)) | refine Below.then ?_ hb8 (by first | omega | (simp; done) | (simp; omega)) | refine Below.then ?_ hb7 (by first | omega | (simp; done) | (simp; omega)) | refine Below.then ?_ hb6 (by first | omega | (simp; done) | (simp; omega)) | refine Below.then ?_ hb5 (by first | omega | (simp; done) | (simp; omega)) | refine Below.then ?_ hb4 (by first | omega | (simp; done) | (simp; omega)) | refine Below.then ?_ hb3 (by first | omega | (simp; done) | (simp; omega)) | refine Below.then ?_ hb2 (by first | omega | (simp; done) | (simp; omega)) | refine Below.then ?_ hb1 (by first | omega | (simp; done) | (simp; omega))))) (by first | omega | (simp; done) | (simp; omega))
  replace x3 := hold_cell (w2 := w4) x3 (by (repeat (first | exact Below.refl _ _ | (with_reducible assumption) | refine Below.drew ?_ | refine Below.drewN' ?_ _ | refine Below.alloc ?_ (by first | omega | (simp; done) | (simp; omega)) _ | refine Below.setCell ?_ (by first | omega | (simp; done) | (simp; omega)) _ | refine Below.then ?_ hb9 (by first | omega | (simp; done) | (simp; omega)) | refine Below.then ?_ hb8 (by first | omega | (simp; done) | (simp; omega)) | refine Below.then ?_ hb7 (by first | omega | (simp; done) | (simp; omega)) | refine Below.then ?_ hb6 (by first | omega | (simp; done) | (simp; omega)) | refine Below.then ?_ hb5 (by first | omega | (simp; done) | (simp; omega)) | refine Below.then ?_ hb4 (by first | omega | (simp; done) | (simp; omega)) | refine Below.then ?_ hb3 (by first | omega | (simp; done) | (simp; omega)) | refine Below.then ?_ hb2 (by first | omega | (simp; done) | (simp; omega)) | refine Below.then ?_ hb1 (by first | omega | (simp; done) | (simp; omega))))) (by first | omega | (simp; done) | (simp; omega))
  replace y3 := hold_fz (w2 := w4) y3 (by (repeat (first | exact Below.refl _ _ | (with_reducible assumption) | refine Below.drew ?_ | refine Below.drewN' ?_ _ | refine Below.alloc ?_ (by first | omega | (simp; done) | (simp; omega)) _ | refine Below.setCell ?_ (by first | omega | (simp; done) | (simp; omega)) _ | refine Below.then ?_ hb9 (by first | omega | (simp; done) | (simp; omega)) | refine Below.then ?_ hb8 (by first | omega | (simp; done) | (simp; omega)) | refine Below.then ?_ hb7 (by first | omega | (simp; done) | (simp; omega)) | refine Below.then ?_ hb6 (by first | omega | (simp; done) | (simp; omega)) | refine Below.then ?_ hb5 (by first | omega | (simp; done) | (simp; omega)) | refine Below.then ?_ hb4 (by first | omega | (simp; done) | (simp; omega)) | refine Below.then ?_ hb3 (by first | omega | (simp; done) | (simp; omega)) | refine Below.then ?_ hb2 (by first | omega | (simp; done) | (simp; omega)) | refine Below.then ?_ hb1 (by first | omega | (simp; done) | (simp; omega))))) (by first | omega | (simp; done) | (simp; omega))
  replace x4 := hold_cell (w2 := w4) x4 (by (repeat (first | exact Below.refl _ _ | (with_reducible assumption) | refine Below.drew ?_ | refine Below.drewN' ?_ _ | refine Below.alloc ?_ (by first | omega | (simp; done) | (simp; omega)) _ | refine Below.setCell ?_ (by first | omega | (simp; done) | (simp; omega)) _ | refine Below.then ?_ hb9 (by first | omega | (simp; done) | (simp; omega)) | refine Below.then ?_ hb8 (by first | omega | (simp; done) | (simp; omega)) | refine Below.then ?_ hb7 (by first | omega | (simp; done) | (simp; omega)) | refine Below.then ?_ hb6 (by first | omega | (simp; done) | (simp; omega)) | refine Below.then ?_ hb5 (by first | omega | (simp; done) | (simp; omega)) | refine Below.then ?_ hb4 (by first | omega | (simp; done) | (simp; omega)) | refine Below.then ?_ hb3 (by first | omega | (simp; done) | (simp; omega)) | refine Below.then ?_ hb2 (by first | omega | (simp; done) | (simp; omega)) | refine Below.then ?_ hb1 (by first | omega | (simp; done) | (simp; omega))))) (by first | omega | (simp; done) | (simp; omega))
  replace y4 := hold_fz (w2 := w4) y4 (by (repeat (first | exact Below.refl _ _ | (with_reducible assumption) | refine Below.drew ?_ | refine Below.drewN' ?_ _ | refine Below.alloc ?_ (by first | omega | (simp; done) | (simp; omega)) _ | refine Below.setCell ?_ (by first | omega | (simp; done) | (simp; omega)) _ | refine Below.then ?_ hb9 (by first | omega | (simp; done) | (simp; omega)) | refine Below.then ?_ hb8 (by first | omega | (simp; done) | (simp; omega)) | refine Below.then ?_ hb7 (by first | omega | (simp; done) | (simp; omega)) | refine Below.then ?_ hb6 (by first | omega | (simp; done) | (simp; omega)) | refine Below.then ?_ hb5 (by first | omega | (simp; done) | (simp; omega)) | refine Below.then ?_ hb4 (by first | omega | (simp; done) | (simp; omega)) | refine Below.then ?_ hb3 (by first | omega | (simp; done) | (simp; omega)) | refine Below.then ?_ hb2 (by first | omega | (simp; done) | (simp; omega)) | refine Below.then ?_ hb1 (by first | omega | (simp; done) | (simp; omega))))) (by first | omega | (simp; done) | (simp; omega))
  replace x5 := hold_cell (w2 := w4) x5 (by (repeat (first | exact Below.refl _ _ | (with_reducible assumption) | refine Below.drew ?_ | refine Below.drewN' ?_ _ | refine Below.alloc ?_ (by first | omega | (simp; done) | (simp; omega)) _ | refine Below.setCell ?_ (by first | omega | (simp; done) | (simp; omega)) _ | refine Below.then ?_ hb9 (by first | omega | (simp; done) | (simp; omega)) | refine Below.then ?_ hb8 (by first | omega | (simp; done) | (simp; omega)) | refine Below.then ?_ hb7 (by first | omega | (simp; done) | (simp; omega)) | refine Below.then ?_ hb6 (by first | omega | (simp; done) | (simp; omega)) | refine Below.then ?_ hb5 (by first | omega | (simp; done) | (simp; omega)) | refine Below.then ?_ hb4 (by first | omega | (simp; done) | (simp; omega)) | refine Below.then ?_ hb3 (by first | omega | (simp; done) | (simp; omega)) | refine Below.then ?_ hb2 (by first | omega | (simp; done) | (simp; omega)) | refine Below.then ?_ hb1 (by first | omega | (simp; done) | (simp; omega))))) (by first | omega | (simp; done) | (simp; omega))
  replace y5 := hold_fz (w2 := w4) y5 (by (repeat (first | exact Below.refl _ _ | (with_reducible assumption) | refine Below.drew ?_ | refine Below.drewN' ?_ _ | refine Below.alloc ?_ (by first | omega | (simp; done) | (simp; omega)) _ | refine Below.setCell ?_ (by first | omega | (simp; done) | (simp; omega)) _ | refine Below.then ?_ hb9 (by first | omega | (simp; done) | (simp; omega)) | refine Below.then ?_ hb8 (by first | omega | (simp; done) | (simp; omega)) | refine Below.then ?_ hb7 (by first | omega | (simp; done) | (simp; omega)) | refine Below.then ?_ hb6 (by first | omega | (simp; done) | (simp; omega)) | refine Below.then ?_ hb5 (by first | omega | (simp; done) | (simp; omega)) | refine Below.then ?_ hb4 (by first | omega | (simp; done) | (simp; omega)) | refine Below.then ?_ hb3 (by first | omega | (simp; done) | (simp; omega)) | refine Below.then ?_ hb2 (by first | omega | (simp; done) | (simp; omega)) | refine Below.then ?_ hb1 (by first | omega | (simp; done) | (simp; omega))))) (by first | omega | (simp; done) | (simp; omega))
  replace x6 := hold_cell (w2 := w4) x6 (by (repeat (first | exact Below.refl _ _ | (with_reducible assumption) | refine Below.drew ?_ | refine Below.drewN' ?_ _ | refine Below.alloc ?_ (by first | omega | (simp; done) | (simp; omega)) _ | refine Below.setCell ?_ (by first | omega | (simp; done) | (simp; omega)) _ | refine Below.then ?_ hb9 (by first | omega | (simp; done) | (simp; omega)) | refine Below.then ?_ hb8 (by first | omega | (simp; done) | (simp; omega)) | refine Below.then ?_ hb7 (by first | omega | (simp; done) | (simp; omega)) | refine Below.then ?_ hb6 (by first | omega | (simp; done) | (simp; omega)) | refine Below.then ?_ hb5 (by first | omega | (simp; done) | (simp; omega)) | refine Below.then ?_ hb4 (by first | omega | (simp; done) | (simp; omega)) | refine Below.then ?_ hb3 (by first | omega | (simp; done) | (simp; omega)) | refine Below.then ?_ hb2 (by first | omega | (simp; done) | (simp; omega)) | refine Below.then ?_ hb1 (by first | omega | (simp; done) | (simp; omega))))) (by first | omega | (simp; done) | (simp; omega))
  replace y6 := hold_fz (w2 := w4) y6 (by (repeat (first | exact Below.refl _ _ | (with_reducible assumption) | refine Below.drew ?_ | refine Below.drewN' ?_ _ | refine Below.alloc ?_ (by first | omega | (simp; done) | (simp; omega)) _ | refine Below.setCell ?_ (by first | omega | (simp; done) | (simp; omega)) _ | refine Below.then ?_ hb9 (by first | omega | (simp; done) | (simp; omega)) | refine Below.then ?_ hb8 (by first | omega | (simp; done) | (simp; omega)) | refine Below.then ?_ hb7 (by first | omega | (simp; done) | (simp; omega)) | refine Below.then ?_ hb6 (by first | omega | (simp; done) | (simp; omega)) | refine Below.then ?_ hb5 (by first | omega | (simp; done) | (simp; omega)) | refine Below.then ?_ hb4 (by first | omega | (simp; done) | (simp; omega)) | refine Below.then ?_ hb3 (by first | omega | (simp; done) | (simp; omega)) | refine Below.then ?_ hb2 (by first | omega | (simp; done) | (simp; omega)) | refine Below.then ?_ hb1 (by first | omega | (simp; done) | (simp; omega))))) (by first | omega | (simp; done) | (simp; omega))
  replace x7 := hold_cell (w2 := w4) x7 (by (repeat (first | exact Below.refl _ _ | (with_reducible assumption) | refine Below.drew ?_ | refine Below.drewN' ?_ _ | refine Below.alloc ?_ (by first | omega | (simp; done) | (simp; omega)) _ | refine Below.setCell ?_ (by first | omega | (simp; done) | (simp; omega)) _ | refine Below.then ?_ hb9 (by first | omega | (simp; done) | (simp; omega)) | refine Below.then ?_ hb8 (by first | omega | (simp; done) | (simp; omega)) | refine Below.then ?_ hb7 (by first | omega | (simp; done) | (simp; omega)) | refine Below.then ?_ hb6 (by first | omega | (simp; done) | (simp; omega)) | refine Below.then ?_ hb5 (by first | omega | (simp; done) | (simp; omega)) | refine Below.then ?_ hb4 (by first | omega | (simp; done) | (simp; omega)) | refine Below.then ?_ hb3 (by first | omega | (simp; done) | (simp; omega)) | refine Below.then ?_ hb2 (by first | omega | (simp; done) | (simp; omega)) | refine Below.then ?_ hb1 (by first | omega | (simp; done) | (simp; omega))))) (by first | omega | (simp; done) | (simp; omega))
  replace y7 := hold_fz (w2 := w4) y7 (by (repeat (first | exact Below.refl _ _ | (with_reducible assumption) | refine Below.drew ?_ | refine Below.drewN' ?_ _ | refine Below.alloc ?_ (by first | omega | (simp; done) | (simp; omega)) _ | refine Below.setCell ?_ (by first | omega | (simp; done) | (simp; omega)) _ | refine Below.then ?_ hb9 (by first | omega | (simp; done) | (simp; omega)) | refine Below.then ?_ hb8 (by first | omega | (simp; done) | (simp; omega)) | refine Below.then ?_ hb7 (by first | omega | (simp; done) | (simp; omega)) | refine Below.then ?_ hb6 (by first | omega | (simp; done) | (simp; omega)) | refine Below.then ?_ hb5 (by first | omega | (simp; done) | (simp; omega)) | refine Below.then ?_ hb4 (by first | omega | (simp; done) | (simp; omega)) | refine Below.then ?_ hb3 (by first | omega | (simp; done) | (simp; omega)) | refine Below.then ?_ hb2 (by first | omega | (simp; done) | (simp; omega)) | refine Below.then ?_ hb1 (by first | omega | (simp; done) | (simp; omega))))) (by first | omega | (simp; done) | (simp; omega))
  replace x8 := hold_cell (w2 := w4) x8 (by (repeat (first | exact Below.refl _ _ | (with_reducible assumption) | refine Below.drew ?_ | refine Below.drewN' ?_ _ | refine Below.alloc ?_ (by first | omega | (simp; done) | (simp; omega)) _ | refine Below.setCell ?_ (by first | omega | (simp; done) | (simp; omega)) _ | refine Below.then ?_ hb9 (by first | omega | (simp; done) | (simp; omega)) | refine Below.then ?_ hb8 (by first | omega | (simp; done) | (simp; omega)) | refine Below.then ?_ hb7 (by first | omega | (simp; done) | (simp; omega)) | refine Below.then ?_ hb6 (by first | omega | (simp; done) | (simp; omega)) | refine Below.then ?_ hb5 (by first | omega | (simp; done) | (simp; omega)) | refine Below.then ?_ hb4 (by first | omega | (simp; done) | (simp; omega)) | refine Below.then ?_ hb3 (by first | omega | (simp; done) | (simp; omega)) | refine Below.then ?_ hb2 (by first | omega | (simp; done) | (simp; omega)) | refine Below.then ?_ hb1 (by first | omega | (simp; done) | (simp; omega))))) (by first | omega | (simp; done) | (simp; omega))
  replace y8 := hold_fz (w2 := w4) y8 (by (repeat (first | exact Below.refl _ _ | (with_reducible assumption) | refine Below.drew ?_ | refine Below.drewN' ?_ _ | refine Below.alloc ?_ (by first | omega | (simp; done) | (simp; omega)) _ | refine Below.setCell ?_ (by first | omega | (simp; done) | (simp; omega)) _ | refine Below.then ?_ hb9 (by first | omega | (simp; done) | (simp; omega)) | refine Below.then ?_ hb8 (by first | omega | (simp; done) | (simp; omega)) | refine Below.then ?_ hb7 (by first | omega | (simp; done) | (simp; omega)) | refine Below.then ?_ hb6 (by first | omega | (simp; done) | (simp; omega)) | refine Below.then ?_ hb5 (by first | omega | (simp; done) | (simp; omega)) | refine Below.then ?_ hb4 (by first | omega | (simp; done) | (simp; omega)) | refine Below.then ?_ hb3 (by first | omega | (simp; done) | (simp; omega)) | refine Below.then ?_ hb2 (by first | omega | (simp; done) | (simp; omega)) | refine Below.then ?_ hb1 (by first | omega | (simp; done) | (simp; omega))))) (by first | omega | (simp; done) | (simp; omega))
  replace x9 := hold_cell (w2 := w4) x9 (by (repeat (first | exact Below.refl _ _ | (with_reducible assumption) | refine Below.drew ?_ | refine Below.drewN' ?_ _ | refine Below.alloc ?_ (by first | omega | (simp; done) | (simp; omega)) _ | refine Below.setCell ?_ (by first | omega | (simp; done) | (simp; omega)) _ | refine Below.then ?_ hb9 (by first | omega | (simp; done) | (simp; omega)) | refine Below.then ?_ hb8 (by first | omega | (simp; done) | (simp; omega)) | refine Below.then ?_ hb7 (by first | omega | (simp; done) | (simp; omega)) | refine Below.then ?_ hb6 (by first | omega | (simp; done) | (simp; omega)) | refine Below.then ?_ hb5 (by first | omega | (simp; done) | (simp; omega)) | refine Below.then ?_ hb4 (by first | omega | (simp; done) | (simp; omega)) | refine Below.then ?_ hb3 (by first | omega | (simp; done) | (simp; omega)) | refine Below.then ?_ hb2 (by first | omega | (simp; done) | (simp; omega)) | refine Below.then ?_ hb1 (by first | omega | (simp; done) | (simp; omega))))) (by first | omega | (simp; done) | (simp; omega))
  replace y9 := hold_fz (w2 := w4) y9 (by (repeat (first | exact Below.refl _ _ | (with_reducible assumption) | refine Below.drew ?_ | refine Below.drewN' ?_ _ | refine Below.alloc ?_ (by first | omega | (simp; done) | (simp; omega)) _ | refine Below.setCell ?_ (by first | omega | (simp; done) | (simp; omega)) _ | refine Below.then ?_ hb9 (by first | omega | (simp; done) | (simp; omega)) | refine Below.then ?_ hb8 (by first | omega | (simp; done) | (simp; omega)) | refine Below.then ?_ hb7 (by first | omega | (simp; done) | (simp; omega)) | refine Below.then ?_ hb6 (by first | omega | (simp; done) | (simp; omega)) | refine Below.then ?_ hb5 (by first | omega | (simp; done) | (simp; omega)) | refine Below.then ?_ hb4 (by first | omega | (simp; done) | (simp; omega)) | refine Below.then ?_ hb3 (by first | omega | (simp; done) | (simp; omega)) | refine Below.then ?_ hb2 (by first | omega | (simp; done) | (simp; omega)) | refine Below.then ?_ hb1 (by first | omega | (simp; done) | (simp; omega))))) (by first | omega | (simp; done) | (simp; omega))
  replace x10 := hold_cell (w2 := w4) x10 (by (repeat (first | exact Below.refl _ _ | (with_reducible assumption) | refine Below.drew ?_ | refine Below.drewN' ?_ _ | refine Below.alloc ?_ (by first | omega | (simp; done) | (simp; omega)) _ | refine Below.setCell ?_ (by first | omega | (simp; done) | (simp; omega)) _ | refine Below.then ?_ hb9 (by first | omega | (simp; done) | (simp; omega)) | refine Below.then ?_ hb8 (by first | omega | (simp; done) | (simp; omega)) | refine Below.then ?_ hb7 (by first | omega | (simp; done) | (simp; omega)) | refine Below.then ?_ hb6 (by first | omega | (simp; done) | (simp; omega)) | refine Below.then ?_ hb5 (by first | omega | (simp; done) | (simp; omega)) | refine Below.then ?_ hb4 (by first | omega | (simp; done) | (simp; omega)) | refine Below.then ?_ hb3 (by first | omega | (simp; done) | (simp; omega)) | refine Below.then ?_ hb2 (by first | omega | (simp; done) | (simp; omega)) | refine Below.then ?_ hb1 (by first | omega | (simp; done) | (simp; omega))))) (by first | omega | (simp; done) | (simp; omega))
  replace y10 := hold_fz (w2 := w4) y10 (by (repeat (first | exact Below.refl _ _ | (with_reducible assumption) | refine Below.drew ?_ | refine Below.drewN' ?_ _ | refine Below.alloc ?_ (by first | omega | (simp; done) | (simp; omega)) _ | refine Below.setCell ?_ (by first | omega | (simp; done) | (simp; omega)) _ | refine Below.then ?_ hb9 (by first | omega | (simp; done) | (simp; omega)) | refine Below.then ?_ hb8 (by first | omega | (simp; done) | (simp; omega)) | refine Below.then ?_ hb7 (by first | omega | (simp; done) | (simp; omega)) | refine Below.then ?_ hb6 (by first | omega | (simp; done) | (simp; omega)) | refine Below.then ?_ hb5 (by first | omega | (simp; done) | (simp; omega)) | refine Below.then ?_ hb4 (by first | omega | (simp; done) | (simp; omega)) | refine Below.then ?_ hb3 (by first | omega | (simp; done) | (simp; omega)) | refine Below.then ?_ hb2 (by first | omega | (simp; done) | (simp; omega)) | refine Below.then ?_ hb1 (by first | omega | (simp; done) | (simp; omega))))) (by first | omega | (simp; done) | (simp; omega))
  replace x11 := hold_cell (w2 := w4) x11 (by (repeat (first | exact Below.refl _ _ | (with_reducible assumption) | refine Below.drew ?_ | refine Below.drewN' ?_ _ | refine Below.alloc ?_ (by first | omega | (simp; done) | (simp; omega)) _ | refine Below.setCell ?_ (by first | omega | (simp; done) | (simp; omega)) _ | refine Below.then ?_ hb9 (by first | omega | (simp; done) | (simp; omega)) | refine Below.then ?_ hb8 (by first | omega | (simp; done) | (simp; omega)) | refine Below.then ?_ hb7 (by first | omega | (simp; done) | (simp; omega)) | refine Below.then ?_ hb6 (by first | omega | (simp; done) | (simp; omega)) | refine Below.then ?_ hb5 (by first | omega | (simp; done) | (simp; omega)) | refine Below.then ?_ hb4 (by first | omega | (simp; done) | (simp; omega)) | refine Below.then ?_ hb3 (by first | omega | (simp; done) | (simp; omega)) | refine Below.then ?_ hb2 (by first | omega | (simp; done) | (simp; omega)) | refine Below.then ?_ hb1 (by first | omega | (simp; done) | (simp; omega))))) (by first | omega | (simp; done) | (simp; omega))
  replace y11 := hold_fz (w2 := w4) y11 (by (repeat (first | exact Below.refl _ _ | (with_reducible assumption) | refine Below.drew ?_ | refine Below.drewN' ?_ _ | refine Below.alloc ?_ (by first | omega | (simp; done) | (simp; omega)) _ | refine Below.setCell ?_ (by first | omega | (simp; done) | (simp; omega)) _ | refine Below.then ?_ hb9 (by first | omega | (simp; done) | (simp; omega)) | refine Below.then ?_ hb8 (by first | omega | (simp; done) | (simp; omega)) | refine Below.then ?_ hb7 (by first | omega | (simp; done) | (simp; omega)) | refine Below.then ?_ hb6 (by first | omega | (simp; done) | (simp; omega)) | refine Below.then ?_ hb5 (by first | omega | (simp; done) | (simp; omega)) | refine Below.then ?_ hb4 (by first | omega | (simp; done) | (simp; omega)) | refine Below.then ?_ hb3 (by first | omega | (simp; done) | (simp; omega)) | refine Below.then ?_ hb2 (by first | omega | (simp; done) | (simp; omega)) | refine Below.then ?_ hb1 (by first | omega | (simp; done) | (simp; omega))))) (by first | omega | (simp; done) | (simp; omega))
  replace x12 := hold_cell (w2 := w4) x12 (by (repeat (first | exact Below.refl _ _ | (with_reducible assumption) | refine Below.drew ?_ | refine Below.drewN' ?_ _ | refine Below.alloc ?_ (by first | omega | (simp; done) | (simp; omega)) _ | refine Below.setCell ?_ (by first | omega | (simp; done) | (simp; omega)) _ | refine Below.then ?_ hb9 (by first | omega | (simp; done) | (simp; omega)) | refine Below.then ?_ hb8 (by first | omega | (simp; done) | (simp; omega)) | refine Below.then ?_ hb7 (by first | omega | (simp; done) | (simp; omega)) | refine Below.then ?_ hb6 (by first | omega | (simp; done) | (simp; omega)) | refine Below.then ?_ hb5 (by first | omega | (simp; done) | (simp; omega)) | refine Below.then ?_ hb4 (by first | omega | (simp; done) | (simp; omega)) | refine Below.then ?_ hb3 (by first | omega | (simp; done) | (simp; omega)) | refine Below.then ?_ hb2 (by first | omega | (simp; done) | (simp; omega)) | refine Below.then ?_ hb1 (by first | omega | (simp; done) | (simp; omega))))) (by first | omega | (simp; done) | (simp; omega))
  replace y12 := hold_fz (w2 := w4) y12 (by (repeat (first | exact Below.refl _ _ | (with_reducible assumption) | refine Below.drew ?_ | refine Below.drewN' ?_ _ | refine Below.alloc ?_ (by first | omega | (simp; done) | (simp; omega)) _ | refine Below.setCell ?_ (by first | omega | (simp; done) | (simp; omega)) _ | refine Below.then ?_ hb9 (by first | omega | (simp; done) | (simp; omega)) | refine Below.then ?_ hb8 (by first | omega | (simp; done) | (simp; omega)) | refine Below.then ?_ hb7 (by first | omega | (simp; done) | (simp; omega)) | refine Below.then ?_ hb6 (by first | omega | (simp; done) | (simp; omega)) | refine Below.then ?_ hb5 (by first | omega | (simp; done) | (simp; omega)) | refine Below.then ?_ hb4 (by first | omega | (simp; done) | (simp; omega)) | refine Below.then ?_ hb3 (by first | omega | (simp; done) | (simp; omega)) | refine Below.then ?_ hb2 (by first | omega | (simp; done) | (simp; omega)) | refine Below.then ?_ hb1 (by first | omega | (simp; done) | (simp; omega))))) (by first | omega | (simp; done) | (simp; omega))
  have z4_0 : w4.cell? ⟨Z, 0, none⟩ = some (.int .i64 0) := blk_cell z4 0 _ rfl
  have z4_1 : w4.cell? ⟨Z, 1, none⟩ = some (.int .i64 0) := blk_cell z4 1 _ rfl
  have z4_2 : w4.cell? ⟨Z, 2, none⟩ = some (.int .i64 0) := blk_cell z4 2 _ rfl
  have z4_3 : w4.cell? ⟨Z, 3, none⟩ = some (.int .i64 0) := blk_cell z4 3 _ rfl
  have z4_4 : w4.cell? ⟨Z, 4, none⟩ = some (.int .i64 0) := blk_cell z4 4 _ rfl
  have z4_5 : w4.cell? ⟨Z, 5, none⟩ = some (.int .i64 0) := blk_cell z4 5 _ rfl
  have z4_6 : w4.cell? ⟨Z, 6, none⟩ = some (.int .i64 0) := blk_cell z4 6 _ rfl
  have z4_7 : w4.cell? ⟨Z, 7, none⟩ = some (.int .u64 0) := blk_cell z4 7 _ rfl
  have z4_8 : w4.cell? ⟨Z, 8, none⟩ = some (.int .u64 0) := blk_cell z4 8 _ rfl
  have z4_9 : w4.cell? ⟨Z, 9, none⟩ = some (.int .u64 0) := blk_cell z4 9 _ rfl
  have z4_10 : w4.cell? ⟨Z, 10, none⟩ = some (.int .u64 0) := blk_cell z4 10 _ rfl
  have z4_11 : w4.cell? ⟨Z, 11, none⟩ = some (.int .u64 0) := blk_cell z4 11 _ rfl
  have z4_12 : w4.cell? ⟨Z, 12, none⟩ = some (.int .u64 0) := blk_cell z4 12 _ rfl
  have zf7 := blk_fz z4 7
  have lZ := blk_lt z4
  have hb04 : Below w.heap.size w w4 := Below.then hb03 hb4 (by omega)
  have lx4 : w.heap.size + 1 < w4.heap.size := by omega
  have hZ1 : ¬ Z = w.heap.size + 1 := by omega
  have hZ2 : ¬ w.heap.size + 1 = Z := by omega
  have hZ3 : w.heap.size ≤ Z := by omega
  clear hb4 hb03 z0 z4 lx3 hzz hz4 hz1
  go_wp2
  refine bodyPost_ret (v := .tuple #[.agg #[.int .i64 0, .int .i64 0, .int .i64 0, .int .i64 0, .int .i64 0, .int .i64 0, .int .i64 0, .int .u64 40, .int .u64 0, .int .u64 0, .int .u64 0, .int .u64 0, .int .u64 0], .int .i64 0]) ?hr rfl ⟨rfl, ?hb⟩
  case hb => (repeat (first | (with_reducible exact Below.refl _ _) | (with_reducible assumption) | (with_reducible refine Below.drew ?_) | (with_reducible refine Below.alloc ?_ (by first | omega | (simp; done) | (simp; omega)) _) | (with_reducible refine Below.setCell ?_ (by first | omega | (simp; done) | (simp; omega)) _)))
  case hr =>
    refine first19_results _ (w.heap.size + 1) _ rfl rfl ?_
    exact blk_set (blk_set (blk_set (blk_set (blk_set (blk_set (blk_set (blk_set (blk_set (blk_set (blk_set (blk_set (blk_set (blk_off X4 7 (.int .u64 40) (by omega)) _ _) _ _) _ _) _ _) _ _) _ _) _ _) _ _) _ _) _ _) _ _) _ _) _ _

theorem op19a_calls (a : Option Addr) (c : Nat) (w : World) (h : SlOf w a (strV ss19)) : Calls Try.prog 39 #[.agg #[.int .i64 1, .int .i64 32, .slice a 2 c], .agg #[.int .i64 0, .int .i64 0, .int .i64 0, .int .i64 0, .int .i64 0, .int .i64 0, .int .i64 0, .int .u64 40, .int .u64 0, .int .u64 0, .int .u64 0, .int .u64 0, .int .u64 0], .agg #[.int .i64 2, .int .i64 0, .int .i64 1, .int .i64 0, .int .i64 0, .int .i64 0, .int .i64 0, .int .i64 0], .int .u64 6] w fun r w' => r = .returned (.tuple #[.agg #[.int .i64 0, .int .i64 5, .int .i64 7], .int .i64 1]) ∧ Below w.heap.size w w' := by
  have H := opens_calls th19 th19_ok 1 32 a c ss19 (by decide) ⟨2, 0, 1, 0, 0, 0, 0, 0⟩ 6 (by decide) (by decide) w h
  rw [show opnE th19 1 32 ss19 ⟨2, 0, 1, 0, 0, 0, 0, 0⟩ 6 = 0 by decide +kernel, show opnO th19 1 32 ss19 ⟨2, 0, 1, 0, 0, 0, 0, 0⟩ 6 = 5 by decide +kernel, show opnA th19 1 32 ss19 ⟨2, 0, 1, 0, 0, 0, 0, 0⟩ 6 = 7 by decide +kernel, show opnN th19 1 32 ss19 ⟨2, 0, 1, 0, 0, 0, 0, 0⟩ = 1 by decide +kernel] at H
  exact H
theorem op19b_calls (a : Option Addr) (c : Nat) (w : World) (h : SlOf w a (strV ss19)) : Calls Try.prog 39 #[.agg #[.int .i64 1, .int .i64 32, .slice a 2 c], .agg #[.int .i64 0, .int .i64 0, .int .i64 0, .int .i64 0, .int .i64 0, .int .i64 0, .int .i64 0, .int .u64 40, .int .u64 0, .int .u64 0, .int .u64 0, .int .u64 0, .int .u64 0], .agg #[.int .i64 5, .int .i64 0, .int .i64 0, .int .i64 0, .int .i64 0, .int .i64 0, .int .i64 0, .int .i64 0], .int .u64 6] w fun r w' => r = .returned (.tuple #[.agg #[.int .i64 132, .int .i64 0, .int .i64 0], .int .i64 1]) ∧ Below w.heap.size w w' := by
  have H := opens_calls th19 th19_ok 1 32 a c ss19 (by decide) ⟨5, 0, 0, 0, 0, 0, 0, 0⟩ 6 (by decide) (by decide) w h
  rw [show opnE th19 1 32 ss19 ⟨5, 0, 0, 0, 0, 0, 0, 0⟩ 6 = 132 by decide +kernel, show opnO th19 1 32 ss19 ⟨5, 0, 0, 0, 0, 0, 0, 0⟩ 6 = 0 by decide +kernel, show opnA th19 1 32 ss19 ⟨5, 0, 0, 0, 0, 0, 0, 0⟩ 6 = 0 by decide +kernel, show opnN th19 1 32 ss19 ⟨5, 0, 0, 0, 0, 0, 0, 0⟩ = 1 by decide +kernel] at H
  exact H
theorem op19c_calls (a : Option Addr) (c : Nat) (w : World) (h : SlOf w a (strV ss19)) : Calls Try.prog 39 #[.agg #[.int .i64 1, .int .i64 32, .slice a 2 c], .agg #[.int .i64 0, .int .i64 0, .int .i64 0, .int .i64 0, .int .i64 0, .int .i64 0, .int .i64 0, .int .u64 40, .int .u64 0, .int .u64 0, .int .u64 0, .int .u64 0, .int .u64 0], .agg #[.int .i64 2, .int .i64 0, .int .i64 1, .int .i64 0, .int .i64 2, .int .i64 0, .int .i64 0, .int .i64 0], .int .u64 6] w fun r w' => r = .returned (.tuple #[.agg #[.int .i64 131, .int .i64 0, .int .i64 0], .int .i64 1]) ∧ Below w.heap.size w w' := by
  have H := opens_calls th19 th19_ok 1 32 a c ss19 (by decide) ⟨2, 0, 1, 0, 2, 0, 0, 0⟩ 6 (by decide) (by decide) w h
  rw [show opnE th19 1 32 ss19 ⟨2, 0, 1, 0, 2, 0, 0, 0⟩ 6 = 131 by decide +kernel, show opnO th19 1 32 ss19 ⟨2, 0, 1, 0, 2, 0, 0, 0⟩ 6 = 0 by decide +kernel, show opnA th19 1 32 ss19 ⟨2, 0, 1, 0, 2, 0, 0, 0⟩ 6 = 0 by decide +kernel, show opnN th19 1 32 ss19 ⟨2, 0, 1, 0, 2, 0, 0, 0⟩ = 1 by decide +kernel] at H
  exact H
theorem op19d_calls (a : Option Addr) (c : Nat) (w : World) (h : SlOf w a (strV ss19)) : Calls Try.prog 39 #[.agg #[.int .i64 1, .int .i64 32, .slice a 2 c], .agg #[.int .i64 0, .int .i64 0, .int .i64 0, .int .i64 0, .int .i64 0, .int .i64 0, .int .i64 0, .int .u64 40, .int .u64 0, .int .u64 0, .int .u64 0, .int .u64 0, .int .u64 0], .agg #[.int .i64 3, .int .i64 1, .int .i64 0, .int .i64 0, .int .i64 0, .int .i64 0, .int .i64 0, .int .i64 0], .int .u64 6] w fun r w' => r = .returned (.tuple #[.agg #[.int .i64 183, .int .i64 0, .int .i64 0], .int .i64 0]) ∧ Below w.heap.size w w' := by
  have H := opens_calls th19 th19_ok 1 32 a c ss19 (by decide) ⟨3, 1, 0, 0, 0, 0, 0, 0⟩ 6 (by decide) (by decide) w h
  rw [show opnE th19 1 32 ss19 ⟨3, 1, 0, 0, 0, 0, 0, 0⟩ 6 = 183 by decide +kernel, show opnO th19 1 32 ss19 ⟨3, 1, 0, 0, 0, 0, 0, 0⟩ 6 = 0 by decide +kernel, show opnA th19 1 32 ss19 ⟨3, 1, 0, 0, 0, 0, 0, 0⟩ 6 = 0 by decide +kernel, show opnN th19 1 32 ss19 ⟨3, 1, 0, 0, 0, 0, 0, 0⟩ = 0 by decide +kernel] at H
  exact H
theorem op19f_calls (a : Option Addr) (c : Nat) (w : World) (h : SlOf w a (strV ss19)) : Calls Try.prog 39 #[.agg #[.int .i64 1, .int .i64 32, .slice a 2 c], .agg #[.int .i64 0, .int .i64 0, .int .i64 0, .int .i64 0, .int .i64 0, .int .i64 0, .int .i64 0, .int .u64 40, .int .u64 0, .int .u64 0, .int .u64 0, .int .u64 0, .int .u64 0], .agg #[.int .i64 2, .int .i64 6, .int .i64 0, .int .i64 0, .int .i64 0, .int .i64 0, .int .i64 0, .int .i64 0], .int .u64 6] w fun r w' => r = .returned (.tuple #[.agg #[.int .i64 181, .int .i64 0, .int .i64 0], .int .i64 0]) ∧ Below w.heap.size w w' := by
  have H := opens_calls th19 th19_ok 1 32 a c ss19 (by decide) ⟨2, 6, 0, 0, 0, 0, 0, 0⟩ 6 (by decide) (by decide) w h
  rw [show opnE th19 1 32 ss19 ⟨2, 6, 0, 0, 0, 0, 0, 0⟩ 6 = 181 by decide +kernel, show opnO th19 1 32 ss19 ⟨2, 6, 0, 0, 0, 0, 0, 0⟩ 6 = 0 by decide +kernel, show opnA th19 1 32 ss19 ⟨2, 6, 0, 0, 0, 0, 0, 0⟩ 6 = 0 by decide +kernel, show opnN th19 1 32 ss19 ⟨2, 6, 0, 0, 0, 0, 0, 0⟩ = 0 by decide +kernel] at H
  exact H
theorem from19_calls (w : World) : Calls Try.prog 72 #[.agg #[.int .i64 0, .int .i64 0, .int .i64 0, .int .i64 0, .int .i64 0, .int .i64 0, .int .i64 0, .int .u64 40, .int .u64 0, .int .u64 0, .int .u64 0, .int .u64 0, .int .u64 0]] w fun r w' => r = .returned (.int .i64 0) ∧ Below w.heap.size w w' := by
  go_enter Try.func72, Try.ntmps72
  go_wp2
  go_ret
  exact ⟨rfl, by (repeat (first | exact Below.refl _ _ | (with_reducible assumption) | refine Below.drew ?_ | refine Below.drewN' ?_ _ | refine Below.alloc ?_ (by first | omega | (simp; done) | (simp; omega)) _ | refine Below.setCell ?_ (by first | omega | (simp; done) | (simp; omega)) _ | refine Below.then ?_ hb9 (by first | omega | (simp; done) | (simp; omega)) | refine Below.then ?_ hb8 (by first | omega | (simp; done) | (simp; omega)) | refine Below.then ?_ hb7 (by first | omega | (simp; done) | (simp; omega)) | refine Below.then ?_ hb6 (by first | omega | (simp; done) | (simp; omega)) | refine Below.then ?_ hb5 (by first | omega | (simp; done) | (simp; omega)) | refine Below.then ?_ hb4 (by first | omega | (simp; done) | (simp; omega)) | refine Below.then ?_ hb3 (by first | omega | (simp; done) | (simp; omega)) | refine Below.then ?_ hb2 (by first | omega | (simp; done) | (simp; omega)) | refine Below.then ?_ hb1 (by first | omega | (simp; done) | (simp; omega))))⟩

set_option maxRecDepth 100000 in
set_option maxHeartbeats 6400000 in
theorem works19_calls (w : World) : Calls Try.prog 38 #[] w fun r w' => r = .returned (.bool true) ∧ Below w.heap.size w w' := by
  have HP := Lib.hid plan19_calls
  have HF := Lib.hid first19_calls
  have HM := Lib.hid from19_calls
  have HU := Lib.hid num19_calls
  have HOa := Lib.hid op19a_calls
  have HOb := Lib.hid op19b_calls
  have HOc := Lib.hid op19c_calls
  have HOd := Lib.hid op19d_calls
  have HOf := Lib.hid op19f_calls
  unfold thV thA th19 at HF
  go_enter Try.func38, Try.ntmps38
  go_wp2_with fail
  refine (HP.out _).mono ?_; rintro e1 w1 ⟨⟨a1, rfl, hs1⟩, hb1⟩
  go_wp2_with fail
  refine (HF.out _ _ _ hs1).mono ?_; rintro e2 w2 ⟨rfl, hb2⟩
  go_wp2_with fail
  have T0 : (w2.alloc (.cells #[.int .i64 0, .int .i64 0, .int .i64 0, .int .i64 0, .int .i64 0, .int .i64 0, .int .i64 0, .int .u64 40, .int .u64 0, .int .u64 0, .int .u64 0, .int .u64 0, .int .u64 0] 90)).heap[w2.heap.size]? = some (.cells #[.int .i64 0, .int .i64 0, .int .i64 0, .int .i64 0, .int .i64 0, .int .i64 0, .int .i64 0, .int .u64 40, .int .u64 0, .int .u64 0, .int .u64 0, .int .u64 0, .int .u64 0] 90 (0, 0)) := (MapKept.heap_alloc w2 _).1
  have hb0 : Below w.heap.size w (w2.alloc (.cells #[.int .i64 0, .int .i64 0, .int .i64 0, .int .i64 0, .int .i64 0, .int .i64 0, .int .i64 0, .int .u64 40, .int .u64 0, .int .u64 0, .int .u64 0, .int .u64 0, .int .u64 0] 90)) := (Below.then hb1 hb2 hb1.size).alloc (Nat.le_trans hb1.size hb2.size) _
  generalize w2.alloc (.cells #[.int .i64 0, .int .i64 0, .int .i64 0, .int .i64 0, .int .i64 0, .int .i64 0, .int .i64 0, .int .u64 40, .int .u64 0, .int .u64 0, .int .u64 0, .int .u64 0, .int .u64 0] 90) = W0 at T0 hb0 ⊢
  generalize w2.heap.size = TB at T0 ⊢
  clear hb1 hb2 hs1
  have lT0 := blk_lt T0
  have t0 : W0.cell? ⟨TB, 0, none⟩ = some (.int .i64 0) := blk_cell T0 0 _ rfl
  have t1 : W0.cell? ⟨TB, 1, none⟩ = some (.int .i64 0) := blk_cell T0 1 _ rfl
  have t2 : W0.cell? ⟨TB, 2, none⟩ = some (.int .i64 0) := blk_cell T0 2 _ rfl
  have t3 : W0.cell? ⟨TB, 3, none⟩ = some (.int .i64 0) := blk_cell T0 3 _ rfl
  have t4 : W0.cell? ⟨TB, 4, none⟩ = some (.int .i64 0) := blk_cell T0 4 _ rfl
  have t5 : W0.cell? ⟨TB, 5, none⟩ = some (.int .i64 0) := blk_cell T0 5 _ rfl
  have t6 : W0.cell? ⟨TB, 6, none⟩ = some (.int .i64 0) := blk_cell T0 6 _ rfl
  have t7 : W0.cell? ⟨TB, 7, none⟩ = some (.int .u64 40) := blk_cell T0 7 _ rfl
  have t8 : W0.cell? ⟨TB, 8, none⟩ = some (.int .u64 0) := blk_cell T0 8 _ rfl
  have t9 : W0.cell? ⟨TB, 9, none⟩ = some (.int .u64 0) := blk_cell T0 9 _ rfl
  have t10 : W0.cell? ⟨TB, 10, none⟩ = some (.int .u64 0) := blk_cell T0 10 _ rfl
  have t11 : W0.cell? ⟨TB, 11, none⟩ = some (.int .u64 0) := blk_cell T0 11 _ rfl
  have t12 : W0.cell? ⟨TB, 12, none⟩ = some (.int .u64 0) := blk_cell T0 12 _ rfl
  refine Code.wp_mono (Q := fun e a W => e = Exit.normal ∧ ∃ (X : Nat) (A8 : Option Addr), a = (?frameOfa : Nat → Option Addr → Act) X A8 ∧ (W.heap[X]? = some (.cells #[.int .i64 0, .int .i64 5, .int .i64 7] 96 (0, 0)) ∧ W0.heap.size ≤ X ∧ Below W0.heap.size W0 W)) ?impa ?rega
  case rega =>
    refine wp_region_held_drew (S := fun A => Below W0.heap.size W0 A) (by kernel_rfl) (Below.refl _ _).drew (fun hHeld => ?_)
    (refine wpAnyH_take (i := 1) (oi := ?oia0_1) (v := ?va0_1) ?hia0_1 ?hsa0_1 ?hfa0_1 ?hra0_1 ?hQa0_1 ?hya0_1 ?hSa0_1 ?ha0_1)
    (case hia0_1 => rfl)
    (case hsa0_1 => kernel_rfl)
    (case hfa0_1 => kernel_rfl)
    (case hra0_1 => kernel_rfl)
    (case hQa0_1 => first | exact fun _ _ _ h => h | exact fun _ _ _ h => (nomatch h.1))
    (case hSa0_1 => assumption)
    (case hya0_1 => (refine Or.inl ⟨by rfl, ?_⟩; intro W hW; (have k0 := (hW.cell (p := ⟨TB, 0, none⟩) lT0).trans t0; have k1 := (hW.cell (p := ⟨TB, 1, none⟩) lT0).trans t1; have k2 := (hW.cell (p := ⟨TB, 2, none⟩) lT0).trans t2; have k3 := (hW.cell (p := ⟨TB, 3, none⟩) lT0).trans t3; have k4 := (hW.cell (p := ⟨TB, 4, none⟩) lT0).trans t4; have k5 := (hW.cell (p := ⟨TB, 5, none⟩) lT0).trans t5; have k6 := (hW.cell (p := ⟨TB, 6, none⟩) lT0).trans t6; have k7 := (hW.cell (p := ⟨TB, 7, none⟩) lT0).trans t7; have k8 := (hW.cell (p := ⟨TB, 8, none⟩) lT0).trans t8; have k9 := (hW.cell (p := ⟨TB, 9, none⟩) lT0).trans t9; have k10 := (hW.cell (p := ⟨TB, 10, none⟩) lT0).trans t10; have k11 := (hW.cell (p := ⟨TB, 11, none⟩) lT0).trans t11; have k12 := (hW.cell (p := ⟨TB, 12, none⟩) lT0).trans t12); go_simp; try with_reducible rfl))
    (try simp only [List.getElem_toArray, List.getElem_cons_succ, List.getElem_cons_zero, Act.put, List.setIfInBounds_toArray, List.set_cons_zero, List.set_cons_succ])
    (refine wpAnyH_take (i := 2) (oi := ?oia0_2) (v := ?va0_2) ?hia0_2 ?hsa0_2 ?hfa0_2 ?hra0_2 ?hQa0_2 ?hya0_2 ?hSa0_2 ?ha0_2)
    (case hia0_2 => rfl)
    (case hsa0_2 => kernel_rfl)
    (case hfa0_2 => kernel_rfl)
    (case hra0_2 => kernel_rfl)
    (case hQa0_2 => first | exact fun _ _ _ h => h | exact fun _ _ _ h => (nomatch h.1))
    (case hSa0_2 => assumption)
    (case hya0_2 => (refine Or.inl ⟨by rfl, ?_⟩; intro W hW; skip; go_simp; try with_reducible rfl))
    (try simp only [List.getElem_toArray, List.getElem_cons_succ, List.getElem_cons_zero, Act.put, List.setIfInBounds_toArray, List.set_cons_zero, List.set_cons_succ])
    refine wpAnyH_ready (rs := [0, 7]) (by kernel_rfl) (by simp) ?_
    refine AllReadyH.cons rfl (fun K' hK => ?_) (AllReadyH.cons rfl (fun K' hK => ?_) AllReadyH.nil)
    · go_simp
      refine (HP.out _).mono ?_
      rintro e8 w8 ⟨⟨a8, rfl, hs8⟩, hb8⟩
      refine hK.out _ _ (Below.then hHeld hb8 hHeld.size) (fun hHeld1 => ?_)
      clear hK
      try simp only [List.getElem_toArray, List.getElem_cons_succ, List.getElem_cons_zero, Act.put, List.setIfInBounds_toArray, List.set_cons_zero, List.set_cons_succ]
      refine wpAnyH_ready (rs := [3, 7]) (by kernel_rfl) (by simp) ?_
      refine AllReadyH.cons rfl (fun K' hK => ?_) (AllReadyH.cons rfl (fun K' hK => ?_) AllReadyH.nil)
      · go_simp
        refine (HOa.out _ _ _ hs8).mono ?_
        rintro e9 w9 ⟨rfl, hb9⟩
        refine hK.out _ _ (Below.then hHeld1 hb9 hHeld1.size) (fun hHeld2 => ?_)
        clear hK
        try simp only [List.getElem_toArray, List.getElem_cons_succ, List.getElem_cons_zero, Act.put, List.setIfInBounds_toArray, List.set_cons_zero, List.set_cons_succ]
        (refine wpAnyH_take (i := 4) (oi := ?oia1_4) (v := ?va1_4) ?hia1_4 ?hsa1_4 ?hfa1_4 ?hra1_4 ?hQa1_4 ?hya1_4 ?hSa1_4 ?ha1_4)
        (case hia1_4 => rfl)
        (case hsa1_4 => kernel_rfl)
        (case hfa1_4 => kernel_rfl)
        (case hra1_4 => kernel_rfl)
        (case hQa1_4 => first | exact fun _ _ _ h => h | exact fun _ _ _ h => (nomatch h.1))
        (case hSa1_4 => assumption)
        (case hya1_4 => (refine Or.inl ⟨by rfl, ?_⟩; intro W hW; skip; go_simp; try with_reducible rfl))
        (try simp only [List.getElem_toArray, List.getElem_cons_succ, List.getElem_cons_zero, Act.put, List.setIfInBounds_toArray, List.set_cons_zero, List.set_cons_succ])
        (refine wpAnyH_take (i := 5) (oi := ?oia1_5) (v := ?va1_5) ?hia1_5 ?hsa1_5 ?hfa1_5 ?hra1_5 ?hQa1_5 ?hya1_5 ?hSa1_5 ?ha1_5)
        (case hia1_5 => rfl)
        (case hsa1_5 => kernel_rfl)
        (case hfa1_5 => kernel_rfl)
        (case hra1_5 => kernel_rfl)
        (case hQa1_5 => first | exact fun _ _ _ h => h | exact fun _ _ _ h => (nomatch h.1))
        (case hSa1_5 => assumption)
        (case hya1_5 => (refine Or.inl ⟨by rfl, ?_⟩; intro W hW; skip; go_simp; try with_reducible rfl))
        (try simp only [List.getElem_toArray, List.getElem_cons_succ, List.getElem_cons_zero, Act.put, List.setIfInBounds_toArray, List.set_cons_zero, List.set_cons_succ])
        (refine wpAnyH_take (i := 6) (oi := ?oia1_6) (v := ?va1_6) ?hia1_6 ?hsa1_6 ?hfa1_6 ?hra1_6 ?hQa1_6 ?hya1_6 ?hSa1_6 ?ha1_6)
        (case hia1_6 => rfl)
        (case hsa1_6 => kernel_rfl)
        (case hfa1_6 => kernel_rfl)
        (case hra1_6 => kernel_rfl)
        (case hQa1_6 => first | exact fun _ _ _ h => h | exact fun _ _ _ h => (nomatch h.1))
        (case hSa1_6 => assumption)
        (case hya1_6 => (refine Or.inl ⟨by rfl, ?_⟩; intro W hW; skip; go_simp; try with_reducible rfl))
        (try simp only [List.getElem_toArray, List.getElem_cons_succ, List.getElem_cons_zero, Act.put, List.setIfInBounds_toArray, List.set_cons_zero, List.set_cons_succ])
        refine wpAnyH_ready (rs := [7]) (by kernel_rfl) (by simp) ?_
        refine AllReadyH.cons rfl (fun K' hK => ?_) AllReadyH.nil
        go_simp
        refine hK.out _ _ (hHeld2.alloc hHeld2.size _) (fun hHeld3 => ?_)
        clear hK
        try simp only [List.getElem_toArray, List.getElem_cons_succ, List.getElem_cons_zero, Act.put, List.setIfInBounds_toArray, List.set_cons_zero, List.set_cons_succ]
        refine wpAnyH_ready (rs := [8]) (by kernel_rfl) (by simp) ?_
        refine AllReadyH.cons rfl (fun K' hK => ?_) AllReadyH.nil
        go_simp
        refine hK.out _ _ (hHeld2.alloc hHeld2.size _) (fun hHeld4 => ?_)
        clear hK
        try simp only [List.getElem_toArray, List.getElem_cons_succ, List.getElem_cons_zero, Act.put, List.setIfInBounds_toArray, List.set_cons_zero, List.set_cons_succ]
        (refine wpAnyH_take (i := 9) (oi := ?oia1_9) (v := ?va1_9) ?hia1_9 ?hsa1_9 ?hfa1_9 ?hra1_9 ?hQa1_9 ?hya1_9 ?hSa1_9 ?ha1_9)
        (case hia1_9 => rfl)
        (case hsa1_9 => kernel_rfl)
        (case hfa1_9 => kernel_rfl)
        (case hra1_9 => kernel_rfl)
        (case hQa1_9 => first | exact fun _ _ _ h => h | exact fun _ _ _ h => (nomatch h.1))
        (case hSa1_9 => assumption)
        (case hya1_9 => (refine Or.inl ⟨by rfl, ?_⟩; intro W hW; skip; go_simp; try with_reducible rfl))
        (try simp only [List.getElem_toArray, List.getElem_cons_succ, List.getElem_cons_zero, Act.put, List.setIfInBounds_toArray, List.set_cons_zero, List.set_cons_succ])
        refine wpAnyH_done (by kernel_rfl) ?_ _
        obtain ⟨X, hX⟩ : ∃ X, w9.heap.size = X := ⟨_, rfl⟩
        have hXs : W0.heap.size ≤ w9.heap.size := hHeld2.size
        have hBX : (w9.alloc (.cells #[.int .i64 0, .int .i64 5, .int .i64 7] 96)).heap[X]? = some (.cells #[.int .i64 0, .int .i64 5, .int .i64 7] 96 (0, 0)) := by rw [← hX]; exact (MapKept.heap_alloc w9 _).1
        refine ⟨rfl, X, a8, ?_, hBX, by omega, hHeld4⟩
        rw [hX]
      · go_simp
        refine hK.out _ _ (hHeld1.alloc hHeld1.size _) (fun hHeld2 => ?_)
        clear hK
        try simp only [List.getElem_toArray, List.getElem_cons_succ, List.getElem_cons_zero, Act.put, List.setIfInBounds_toArray, List.set_cons_zero, List.set_cons_succ]
        have B8 : (w8.alloc (.cells #[.int .i64 0, .int .i64 0, .int .i64 0] 96)).heap[w8.heap.size]? = some (.cells #[.int .i64 0, .int .i64 0, .int .i64 0] 96 (0, 0)) := (MapKept.heap_alloc w8 _).1
        have hs8' := hs8.alloc (.cells #[.int .i64 0, .int .i64 0, .int .i64 0] 96)
        have hXs : W0.heap.size ≤ w8.heap.size := hHeld1.size
        generalize w8.alloc (.cells #[.int .i64 0, .int .i64 0, .int .i64 0] 96) = w7 at B8 hs8' hHeld2 ⊢
        generalize w8.heap.size = X at B8 hXs ⊢
        refine wpAnyH_ready (rs := [3]) (by kernel_rfl) (by simp) ?_
        refine AllReadyH.cons rfl (fun K' hK => ?_) AllReadyH.nil
        go_simp
        refine (HOa.out _ _ _ hs8').mono ?_
        rintro e9 w9 ⟨rfl, hb9⟩
        refine hK.out _ _ (Below.then hHeld2 hb9 hHeld2.size) (fun hHeld4 => ?_)
        clear hK
        try simp only [List.getElem_toArray, List.getElem_cons_succ, List.getElem_cons_zero, Act.put, List.setIfInBounds_toArray, List.set_cons_zero, List.set_cons_succ]
        have B9 := blk_below B8 hb9
        have x0 : w9.cell? ⟨X, 0, none⟩ = some (.int .i64 0) := blk_cell B9 0 _ rfl
        have y0 := blk_fz B9 0
        have x1 : w9.cell? ⟨X, 1, none⟩ = some (.int .i64 0) := blk_cell B9 1 _ rfl
        have y1 := blk_fz B9 1
        have x2 : w9.cell? ⟨X, 2, none⟩ = some (.int .i64 0) := blk_cell B9 2 _ rfl
        have y2 := blk_fz B9 2
        (refine wpAnyH_take (i := 4) (oi := ?oia2_4) (v := ?va2_4) ?hia2_4 ?hsa2_4 ?hfa2_4 ?hra2_4 ?hQa2_4 ?hya2_4 ?hSa2_4 ?ha2_4)
        (case hia2_4 => rfl)
        (case hsa2_4 => kernel_rfl)
        (case hfa2_4 => kernel_rfl)
        (case hra2_4 => kernel_rfl)
        (case hQa2_4 => first | exact fun _ _ _ h => h | exact fun _ _ _ h => (nomatch h.1))
        (case hSa2_4 => assumption)
        (case hya2_4 => (refine Or.inl ⟨by rfl, ?_⟩; intro W hW; skip; go_simp; try with_reducible rfl))
        (try simp only [List.getElem_toArray, List.getElem_cons_succ, List.getElem_cons_zero, Act.put, List.setIfInBounds_toArray, List.set_cons_zero, List.set_cons_succ])
        (refine wpAnyH_take (i := 5) (oi := ?oia2_5) (v := ?va2_5) ?hia2_5 ?hsa2_5 ?hfa2_5 ?hra2_5 ?hQa2_5 ?hya2_5 ?hSa2_5 ?ha2_5)
        (case hia2_5 => rfl)
        (case hsa2_5 => kernel_rfl)
        (case hfa2_5 => kernel_rfl)
        (case hra2_5 => kernel_rfl)
        (case hQa2_5 => first | exact fun _ _ _ h => h | exact fun _ _ _ h => (nomatch h.1))
        (case hSa2_5 => assumption)
        (case hya2_5 => (refine Or.inl ⟨by rfl, ?_⟩; intro W hW; skip; go_simp; try with_reducible rfl))
        (try simp only [List.getElem_toArray, List.getElem_cons_succ, List.getElem_cons_zero, Act.put, List.setIfInBounds_toArray, List.set_cons_zero, List.set_cons_succ])
        (refine wpAnyH_take (i := 6) (oi := ?oia2_6) (v := ?va2_6) ?hia2_6 ?hsa2_6 ?hfa2_6 ?hra2_6 ?hQa2_6 ?hya2_6 ?hSa2_6 ?ha2_6)
        (case hia2_6 => rfl)
        (case hsa2_6 => kernel_rfl)
        (case hfa2_6 => kernel_rfl)
        (case hra2_6 => kernel_rfl)
        (case hQa2_6 => first | exact fun _ _ _ h => h | exact fun _ _ _ h => (nomatch h.1))
        (case hSa2_6 => assumption)
        (case hya2_6 => (refine Or.inl ⟨by rfl, ?_⟩; intro W hW; skip; go_simp; try with_reducible rfl))
        (try simp only [List.getElem_toArray, List.getElem_cons_succ, List.getElem_cons_zero, Act.put, List.setIfInBounds_toArray, List.set_cons_zero, List.set_cons_succ])
        refine wpAnyH_ready (rs := [8]) (by kernel_rfl) (by simp) ?_
        refine AllReadyH.cons rfl (fun K' hK => ?_) AllReadyH.nil
        go_simp
        refine hK.out _ _ (((hHeld4.setCell (p := ⟨X, 0, none⟩) hXs _).setCell (p := ⟨X, 1, none⟩) hXs _).setCell (p := ⟨X, 2, none⟩) hXs _) (fun hHeld5 => ?_)
        clear hK
        try simp only [List.getElem_toArray, List.getElem_cons_succ, List.getElem_cons_zero, Act.put, List.setIfInBounds_toArray, List.set_cons_zero, List.set_cons_succ]
        (refine wpAnyH_take (i := 9) (oi := ?oia2_9) (v := ?va2_9) ?hia2_9 ?hsa2_9 ?hfa2_9 ?hra2_9 ?hQa2_9 ?hya2_9 ?hSa2_9 ?ha2_9)
        (case hia2_9 => rfl)
        (case hsa2_9 => kernel_rfl)
        (case hfa2_9 => kernel_rfl)
        (case hra2_9 => kernel_rfl)
        (case hQa2_9 => first | exact fun _ _ _ h => h | exact fun _ _ _ h => (nomatch h.1))
        (case hSa2_9 => assumption)
        (case hya2_9 => (refine Or.inl ⟨by rfl, ?_⟩; intro W hW; skip; go_simp; try with_reducible rfl))
        (try simp only [List.getElem_toArray, List.getElem_cons_succ, List.getElem_cons_zero, Act.put, List.setIfInBounds_toArray, List.set_cons_zero, List.set_cons_succ])
        refine wpAnyH_done (by kernel_rfl) ?_ _
        have hBX := blk_set (blk_set (blk_set B9 0 (.int .i64 0)) 1 (.int .i64 5)) 2 (.int .i64 7)
        refine ⟨rfl, X, a8, ?_, hBX, hXs, hHeld5⟩
        rfl
    · go_simp
      refine hK.out _ _ (hHeld.alloc (Nat.le_refl _) _) (fun hHeld1 => ?_)
      clear hK
      try simp only [List.getElem_toArray, List.getElem_cons_succ, List.getElem_cons_zero, Act.put, List.setIfInBounds_toArray, List.set_cons_zero, List.set_cons_succ]
      have B7 : (W0.alloc (.cells #[.int .i64 0, .int .i64 0, .int .i64 0] 96)).drew.heap[W0.heap.size]? = some (.cells #[.int .i64 0, .int .i64 0, .int .i64 0] 96 (0, 0)) := blk_drew (MapKept.heap_alloc W0 _).1
      have hXs : W0.heap.size ≤ W0.heap.size := Nat.le_refl _
      generalize (W0.alloc (.cells #[.int .i64 0, .int .i64 0, .int .i64 0] 96)).drew = w7 at B7 hHeld1 ⊢
      refine wpAnyH_ready (rs := [0]) (by kernel_rfl) (by simp) ?_
      refine AllReadyH.cons rfl (fun K' hK => ?_) AllReadyH.nil
      go_simp
      refine (HP.out _).mono ?_
      rintro e8 w8 ⟨⟨a8, rfl, hs8⟩, hb8⟩
      refine hK.out _ _ (Below.then hHeld1 hb8 hHeld1.size) (fun hHeld2 => ?_)
      clear hK
      try simp only [List.getElem_toArray, List.getElem_cons_succ, List.getElem_cons_zero, Act.put, List.setIfInBounds_toArray, List.set_cons_zero, List.set_cons_succ]
      have B8 := blk_below B7 hb8
      refine wpAnyH_ready (rs := [3]) (by kernel_rfl) (by simp) ?_
      refine AllReadyH.cons rfl (fun K' hK => ?_) AllReadyH.nil
      go_simp
      refine (HOa.out _ _ _ hs8).mono ?_
      rintro e9 w9 ⟨rfl, hb9⟩
      refine hK.out _ _ (Below.then hHeld2 hb9 hHeld2.size) (fun hHeld4 => ?_)
      clear hK
      try simp only [List.getElem_toArray, List.getElem_cons_succ, List.getElem_cons_zero, Act.put, List.setIfInBounds_toArray, List.set_cons_zero, List.set_cons_succ]
      have B9 := blk_below B8 hb9
      have x0 : w9.cell? ⟨W0.heap.size, 0, none⟩ = some (.int .i64 0) := blk_cell B9 0 _ rfl
      have y0 := blk_fz B9 0
      have x1 : w9.cell? ⟨W0.heap.size, 1, none⟩ = some (.int .i64 0) := blk_cell B9 1 _ rfl
      have y1 := blk_fz B9 1
      have x2 : w9.cell? ⟨W0.heap.size, 2, none⟩ = some (.int .i64 0) := blk_cell B9 2 _ rfl
      have y2 := blk_fz B9 2
      (refine wpAnyH_take (i := 4) (oi := ?oia3_4) (v := ?va3_4) ?hia3_4 ?hsa3_4 ?hfa3_4 ?hra3_4 ?hQa3_4 ?hya3_4 ?hSa3_4 ?ha3_4)
      (case hia3_4 => rfl)
      (case hsa3_4 => kernel_rfl)
      (case hfa3_4 => kernel_rfl)
      (case hra3_4 => kernel_rfl)
      (case hQa3_4 => first | exact fun _ _ _ h => h | exact fun _ _ _ h => (nomatch h.1))
      (case hSa3_4 => assumption)
      (case hya3_4 => (refine Or.inl ⟨by rfl, ?_⟩; intro W hW; skip; go_simp; try with_reducible rfl))
      (try simp only [List.getElem_toArray, List.getElem_cons_succ, List.getElem_cons_zero, Act.put, List.setIfInBounds_toArray, List.set_cons_zero, List.set_cons_succ])
      (refine wpAnyH_take (i := 5) (oi := ?oia3_5) (v := ?va3_5) ?hia3_5 ?hsa3_5 ?hfa3_5 ?hra3_5 ?hQa3_5 ?hya3_5 ?hSa3_5 ?ha3_5)
      (case hia3_5 => rfl)
      (case hsa3_5 => kernel_rfl)
      (case hfa3_5 => kernel_rfl)
      (case hra3_5 => kernel_rfl)
      (case hQa3_5 => first | exact fun _ _ _ h => h | exact fun _ _ _ h => (nomatch h.1))
      (case hSa3_5 => assumption)
      (case hya3_5 => (refine Or.inl ⟨by rfl, ?_⟩; intro W hW; skip; go_simp; try with_reducible rfl))
      (try simp only [List.getElem_toArray, List.getElem_cons_succ, List.getElem_cons_zero, Act.put, List.setIfInBounds_toArray, List.set_cons_zero, List.set_cons_succ])
      (refine wpAnyH_take (i := 6) (oi := ?oia3_6) (v := ?va3_6) ?hia3_6 ?hsa3_6 ?hfa3_6 ?hra3_6 ?hQa3_6 ?hya3_6 ?hSa3_6 ?ha3_6)
      (case hia3_6 => rfl)
      (case hsa3_6 => kernel_rfl)
      (case hfa3_6 => kernel_rfl)
      (case hra3_6 => kernel_rfl)
      (case hQa3_6 => first | exact fun _ _ _ h => h | exact fun _ _ _ h => (nomatch h.1))
      (case hSa3_6 => assumption)
      (case hya3_6 => (refine Or.inl ⟨by rfl, ?_⟩; intro W hW; skip; go_simp; try with_reducible rfl))
      (try simp only [List.getElem_toArray, List.getElem_cons_succ, List.getElem_cons_zero, Act.put, List.setIfInBounds_toArray, List.set_cons_zero, List.set_cons_succ])
      refine wpAnyH_ready (rs := [8]) (by kernel_rfl) (by simp) ?_
      refine AllReadyH.cons rfl (fun K' hK => ?_) AllReadyH.nil
      go_simp
      refine hK.out _ _ (((hHeld4.setCell (p := ⟨W0.heap.size, 0, none⟩) hXs _).setCell (p := ⟨W0.heap.size, 1, none⟩) hXs _).setCell (p := ⟨W0.heap.size, 2, none⟩) hXs _) (fun hHeld5 => ?_)
      clear hK
      try simp only [List.getElem_toArray, List.getElem_cons_succ, List.getElem_cons_zero, Act.put, List.setIfInBounds_toArray, List.set_cons_zero, List.set_cons_succ]
      (refine wpAnyH_take (i := 9) (oi := ?oia3_9) (v := ?va3_9) ?hia3_9 ?hsa3_9 ?hfa3_9 ?hra3_9 ?hQa3_9 ?hya3_9 ?hSa3_9 ?ha3_9)
      (case hia3_9 => rfl)
      (case hsa3_9 => kernel_rfl)
      (case hfa3_9 => kernel_rfl)
      (case hra3_9 => kernel_rfl)
      (case hQa3_9 => first | exact fun _ _ _ h => h | exact fun _ _ _ h => (nomatch h.1))
      (case hSa3_9 => assumption)
      (case hya3_9 => (refine Or.inl ⟨by rfl, ?_⟩; intro W hW; skip; go_simp; try with_reducible rfl))
      (try simp only [List.getElem_toArray, List.getElem_cons_succ, List.getElem_cons_zero, Act.put, List.setIfInBounds_toArray, List.set_cons_zero, List.set_cons_succ])
      refine wpAnyH_done (by kernel_rfl) ?_ _
      have hBX := blk_set (blk_set (blk_set B9 0 (.int .i64 0)) 1 (.int .i64 5)) 2 (.int .i64 7)
      refine ⟨rfl, W0.heap.size, a8, ?_, hBX, hXs, hHeld5⟩
      rfl
  case impa =>
  rintro e ac W1 ⟨rfl, Xa, A8a, rfl, Ba, hXa, hBl1⟩
  have T1 := blk_below T0 hBl1
  have hb1 := Below.then hb0 hBl1 hb0.size
  clear t0 t1 t2 t3 t4 t5 t6 t7 t8 t9 t10 t11 t12
  go_wp2_with fail
  have lT1 := blk_lt T1
  have t0 : W1.cell? ⟨TB, 0, none⟩ = some (.int .i64 0) := blk_cell T1 0 _ rfl
  have t1 : W1.cell? ⟨TB, 1, none⟩ = some (.int .i64 0) := blk_cell T1 1 _ rfl
  have t2 : W1.cell? ⟨TB, 2, none⟩ = some (.int .i64 0) := blk_cell T1 2 _ rfl
  have t3 : W1.cell? ⟨TB, 3, none⟩ = some (.int .i64 0) := blk_cell T1 3 _ rfl
  have t4 : W1.cell? ⟨TB, 4, none⟩ = some (.int .i64 0) := blk_cell T1 4 _ rfl
  have t5 : W1.cell? ⟨TB, 5, none⟩ = some (.int .i64 0) := blk_cell T1 5 _ rfl
  have t6 : W1.cell? ⟨TB, 6, none⟩ = some (.int .i64 0) := blk_cell T1 6 _ rfl
  have t7 : W1.cell? ⟨TB, 7, none⟩ = some (.int .u64 40) := blk_cell T1 7 _ rfl
  have t8 : W1.cell? ⟨TB, 8, none⟩ = some (.int .u64 0) := blk_cell T1 8 _ rfl
  have t9 : W1.cell? ⟨TB, 9, none⟩ = some (.int .u64 0) := blk_cell T1 9 _ rfl
  have t10 : W1.cell? ⟨TB, 10, none⟩ = some (.int .u64 0) := blk_cell T1 10 _ rfl
  have t11 : W1.cell? ⟨TB, 11, none⟩ = some (.int .u64 0) := blk_cell T1 11 _ rfl
  have t12 : W1.cell? ⟨TB, 12, none⟩ = some (.int .u64 0) := blk_cell T1 12 _ rfl
  refine Code.wp_mono (Q := fun e a W => e = Exit.normal ∧ ∃ (X : Nat) (A8 : Option Addr), a = (?frameOfb : Nat → Option Addr → Act) X A8 ∧ (W.heap[X]? = some (.cells #[.int .i64 132, .int .i64 0, .int .i64 0] 96 (0, 0)) ∧ W1.heap.size ≤ X ∧ Below W1.heap.size W1 W)) ?impb ?regb
  case regb =>
    refine wp_region_held_drew (S := fun A => Below W1.heap.size W1 A) (by kernel_rfl) (Below.refl _ _).drew (fun hHeld => ?_)
    (refine wpAnyH_take (i := 1) (oi := ?oib0_1) (v := ?vb0_1) ?hib0_1 ?hsb0_1 ?hfb0_1 ?hrb0_1 ?hQb0_1 ?hyb0_1 ?hSb0_1 ?hb0_1)
    (case hib0_1 => rfl)
    (case hsb0_1 => kernel_rfl)
    (case hfb0_1 => kernel_rfl)
    (case hrb0_1 => kernel_rfl)
    (case hQb0_1 => first | exact fun _ _ _ h => h | exact fun _ _ _ h => (nomatch h.1))
    (case hSb0_1 => assumption)
    (case hyb0_1 => (refine Or.inl ⟨by rfl, ?_⟩; intro W hW; (have k0 := (hW.cell (p := ⟨TB, 0, none⟩) lT1).trans t0; have k1 := (hW.cell (p := ⟨TB, 1, none⟩) lT1).trans t1; have k2 := (hW.cell (p := ⟨TB, 2, none⟩) lT1).trans t2; have k3 := (hW.cell (p := ⟨TB, 3, none⟩) lT1).trans t3; have k4 := (hW.cell (p := ⟨TB, 4, none⟩) lT1).trans t4; have k5 := (hW.cell (p := ⟨TB, 5, none⟩) lT1).trans t5; have k6 := (hW.cell (p := ⟨TB, 6, none⟩) lT1).trans t6; have k7 := (hW.cell (p := ⟨TB, 7, none⟩) lT1).trans t7; have k8 := (hW.cell (p := ⟨TB, 8, none⟩) lT1).trans t8; have k9 := (hW.cell (p := ⟨TB, 9, none⟩) lT1).trans t9; have k10 := (hW.cell (p := ⟨TB, 10, none⟩) lT1).trans t10; have k11 := (hW.cell (p := ⟨TB, 11, none⟩) lT1).trans t11; have k12 := (hW.cell (p := ⟨TB, 12, none⟩) lT1).trans t12); go_simp; try with_reducible rfl))
    (try simp only [List.getElem_toArray, List.getElem_cons_succ, List.getElem_cons_zero, Act.put, List.setIfInBounds_toArray, List.set_cons_zero, List.set_cons_succ])
    (refine wpAnyH_take (i := 2) (oi := ?oib0_2) (v := ?vb0_2) ?hib0_2 ?hsb0_2 ?hfb0_2 ?hrb0_2 ?hQb0_2 ?hyb0_2 ?hSb0_2 ?hb0_2)
    (case hib0_2 => rfl)
    (case hsb0_2 => kernel_rfl)
    (case hfb0_2 => kernel_rfl)
    (case hrb0_2 => kernel_rfl)
    (case hQb0_2 => first | exact fun _ _ _ h => h | exact fun _ _ _ h => (nomatch h.1))
    (case hSb0_2 => assumption)
    (case hyb0_2 => (refine Or.inl ⟨by rfl, ?_⟩; intro W hW; skip; go_simp; try with_reducible rfl))
    (try simp only [List.getElem_toArray, List.getElem_cons_succ, List.getElem_cons_zero, Act.put, List.setIfInBounds_toArray, List.set_cons_zero, List.set_cons_succ])
    refine wpAnyH_ready (rs := [0, 7]) (by kernel_rfl) (by simp) ?_
    refine AllReadyH.cons rfl (fun K' hK => ?_) (AllReadyH.cons rfl (fun K' hK => ?_) AllReadyH.nil)
    · go_simp
      refine (HP.out _).mono ?_
      rintro e8 w8 ⟨⟨a8, rfl, hs8⟩, hb8⟩
      refine hK.out _ _ (Below.then hHeld hb8 hHeld.size) (fun hHeld1 => ?_)
      clear hK
      try simp only [List.getElem_toArray, List.getElem_cons_succ, List.getElem_cons_zero, Act.put, List.setIfInBounds_toArray, List.set_cons_zero, List.set_cons_succ]
      refine wpAnyH_ready (rs := [3, 7]) (by kernel_rfl) (by simp) ?_
      refine AllReadyH.cons rfl (fun K' hK => ?_) (AllReadyH.cons rfl (fun K' hK => ?_) AllReadyH.nil)
      · go_simp
        refine (HOb.out _ _ _ hs8).mono ?_
        rintro e9 w9 ⟨rfl, hb9⟩
        refine hK.out _ _ (Below.then hHeld1 hb9 hHeld1.size) (fun hHeld2 => ?_)
        clear hK
        try simp only [List.getElem_toArray, List.getElem_cons_succ, List.getElem_cons_zero, Act.put, List.setIfInBounds_toArray, List.set_cons_zero, List.set_cons_succ]
        (refine wpAnyH_take (i := 4) (oi := ?oib1_4) (v := ?vb1_4) ?hib1_4 ?hsb1_4 ?hfb1_4 ?hrb1_4 ?hQb1_4 ?hyb1_4 ?hSb1_4 ?hb1_4)
        (case hib1_4 => rfl)
        (case hsb1_4 => kernel_rfl)
        (case hfb1_4 => kernel_rfl)
        (case hrb1_4 => kernel_rfl)
        (case hQb1_4 => first | exact fun _ _ _ h => h | exact fun _ _ _ h => (nomatch h.1))
        (case hSb1_4 => assumption)
        (case hyb1_4 => (refine Or.inl ⟨by rfl, ?_⟩; intro W hW; skip; go_simp; try with_reducible rfl))
        (try simp only [List.getElem_toArray, List.getElem_cons_succ, List.getElem_cons_zero, Act.put, List.setIfInBounds_toArray, List.set_cons_zero, List.set_cons_succ])
        (refine wpAnyH_take (i := 5) (oi := ?oib1_5) (v := ?vb1_5) ?hib1_5 ?hsb1_5 ?hfb1_5 ?hrb1_5 ?hQb1_5 ?hyb1_5 ?hSb1_5 ?hb1_5)
        (case hib1_5 => rfl)
        (case hsb1_5 => kernel_rfl)
        (case hfb1_5 => kernel_rfl)
        (case hrb1_5 => kernel_rfl)
        (case hQb1_5 => first | exact fun _ _ _ h => h | exact fun _ _ _ h => (nomatch h.1))
        (case hSb1_5 => assumption)
        (case hyb1_5 => (refine Or.inl ⟨by rfl, ?_⟩; intro W hW; skip; go_simp; try with_reducible rfl))
        (try simp only [List.getElem_toArray, List.getElem_cons_succ, List.getElem_cons_zero, Act.put, List.setIfInBounds_toArray, List.set_cons_zero, List.set_cons_succ])
        (refine wpAnyH_take (i := 6) (oi := ?oib1_6) (v := ?vb1_6) ?hib1_6 ?hsb1_6 ?hfb1_6 ?hrb1_6 ?hQb1_6 ?hyb1_6 ?hSb1_6 ?hb1_6)
        (case hib1_6 => rfl)
        (case hsb1_6 => kernel_rfl)
        (case hfb1_6 => kernel_rfl)
        (case hrb1_6 => kernel_rfl)
        (case hQb1_6 => first | exact fun _ _ _ h => h | exact fun _ _ _ h => (nomatch h.1))
        (case hSb1_6 => assumption)
        (case hyb1_6 => (refine Or.inl ⟨by rfl, ?_⟩; intro W hW; skip; go_simp; try with_reducible rfl))
        (try simp only [List.getElem_toArray, List.getElem_cons_succ, List.getElem_cons_zero, Act.put, List.setIfInBounds_toArray, List.set_cons_zero, List.set_cons_succ])
        refine wpAnyH_ready (rs := [7]) (by kernel_rfl) (by simp) ?_
        refine AllReadyH.cons rfl (fun K' hK => ?_) AllReadyH.nil
        go_simp
        refine hK.out _ _ (hHeld2.alloc hHeld2.size _) (fun hHeld3 => ?_)
        clear hK
        try simp only [List.getElem_toArray, List.getElem_cons_succ, List.getElem_cons_zero, Act.put, List.setIfInBounds_toArray, List.set_cons_zero, List.set_cons_succ]
        refine wpAnyH_ready (rs := [8]) (by kernel_rfl) (by simp) ?_
        refine AllReadyH.cons rfl (fun K' hK => ?_) AllReadyH.nil
        go_simp
        refine hK.out _ _ (hHeld2.alloc hHeld2.size _) (fun hHeld4 => ?_)
        clear hK
        try simp only [List.getElem_toArray, List.getElem_cons_succ, List.getElem_cons_zero, Act.put, List.setIfInBounds_toArray, List.set_cons_zero, List.set_cons_succ]
        (refine wpAnyH_take (i := 9) (oi := ?oib1_9) (v := ?vb1_9) ?hib1_9 ?hsb1_9 ?hfb1_9 ?hrb1_9 ?hQb1_9 ?hyb1_9 ?hSb1_9 ?hb1_9)
        (case hib1_9 => rfl)
        (case hsb1_9 => kernel_rfl)
        (case hfb1_9 => kernel_rfl)
        (case hrb1_9 => kernel_rfl)
        (case hQb1_9 => first | exact fun _ _ _ h => h | exact fun _ _ _ h => (nomatch h.1))
        (case hSb1_9 => assumption)
        (case hyb1_9 => (refine Or.inl ⟨by rfl, ?_⟩; intro W hW; skip; go_simp; try with_reducible rfl))
        (try simp only [List.getElem_toArray, List.getElem_cons_succ, List.getElem_cons_zero, Act.put, List.setIfInBounds_toArray, List.set_cons_zero, List.set_cons_succ])
        refine wpAnyH_done (by kernel_rfl) ?_ _
        obtain ⟨X, hX⟩ : ∃ X, w9.heap.size = X := ⟨_, rfl⟩
        have hXs : W1.heap.size ≤ w9.heap.size := hHeld2.size
        have hBX : (w9.alloc (.cells #[.int .i64 132, .int .i64 0, .int .i64 0] 96)).heap[X]? = some (.cells #[.int .i64 132, .int .i64 0, .int .i64 0] 96 (0, 0)) := by rw [← hX]; exact (MapKept.heap_alloc w9 _).1
        refine ⟨rfl, X, a8, ?_, hBX, by omega, hHeld4⟩
        rw [hX]
      · go_simp
        refine hK.out _ _ (hHeld1.alloc hHeld1.size _) (fun hHeld2 => ?_)
        clear hK
        try simp only [List.getElem_toArray, List.getElem_cons_succ, List.getElem_cons_zero, Act.put, List.setIfInBounds_toArray, List.set_cons_zero, List.set_cons_succ]
        have B8 : (w8.alloc (.cells #[.int .i64 0, .int .i64 0, .int .i64 0] 96)).heap[w8.heap.size]? = some (.cells #[.int .i64 0, .int .i64 0, .int .i64 0] 96 (0, 0)) := (MapKept.heap_alloc w8 _).1
        have hs8' := hs8.alloc (.cells #[.int .i64 0, .int .i64 0, .int .i64 0] 96)
        have hXs : W1.heap.size ≤ w8.heap.size := hHeld1.size
        generalize w8.alloc (.cells #[.int .i64 0, .int .i64 0, .int .i64 0] 96) = w7 at B8 hs8' hHeld2 ⊢
        generalize w8.heap.size = X at B8 hXs ⊢
        refine wpAnyH_ready (rs := [3]) (by kernel_rfl) (by simp) ?_
        refine AllReadyH.cons rfl (fun K' hK => ?_) AllReadyH.nil
        go_simp
        refine (HOb.out _ _ _ hs8').mono ?_
        rintro e9 w9 ⟨rfl, hb9⟩
        refine hK.out _ _ (Below.then hHeld2 hb9 hHeld2.size) (fun hHeld4 => ?_)
        clear hK
        try simp only [List.getElem_toArray, List.getElem_cons_succ, List.getElem_cons_zero, Act.put, List.setIfInBounds_toArray, List.set_cons_zero, List.set_cons_succ]
        have B9 := blk_below B8 hb9
        have x0 : w9.cell? ⟨X, 0, none⟩ = some (.int .i64 0) := blk_cell B9 0 _ rfl
        have y0 := blk_fz B9 0
        have x1 : w9.cell? ⟨X, 1, none⟩ = some (.int .i64 0) := blk_cell B9 1 _ rfl
        have y1 := blk_fz B9 1
        have x2 : w9.cell? ⟨X, 2, none⟩ = some (.int .i64 0) := blk_cell B9 2 _ rfl
        have y2 := blk_fz B9 2
        (refine wpAnyH_take (i := 4) (oi := ?oib2_4) (v := ?vb2_4) ?hib2_4 ?hsb2_4 ?hfb2_4 ?hrb2_4 ?hQb2_4 ?hyb2_4 ?hSb2_4 ?hb2_4)
        (case hib2_4 => rfl)
        (case hsb2_4 => kernel_rfl)
        (case hfb2_4 => kernel_rfl)
        (case hrb2_4 => kernel_rfl)
        (case hQb2_4 => first | exact fun _ _ _ h => h | exact fun _ _ _ h => (nomatch h.1))
        (case hSb2_4 => assumption)
        (case hyb2_4 => (refine Or.inl ⟨by rfl, ?_⟩; intro W hW; skip; go_simp; try with_reducible rfl))
        (try simp only [List.getElem_toArray, List.getElem_cons_succ, List.getElem_cons_zero, Act.put, List.setIfInBounds_toArray, List.set_cons_zero, List.set_cons_succ])
        (refine wpAnyH_take (i := 5) (oi := ?oib2_5) (v := ?vb2_5) ?hib2_5 ?hsb2_5 ?hfb2_5 ?hrb2_5 ?hQb2_5 ?hyb2_5 ?hSb2_5 ?hb2_5)
        (case hib2_5 => rfl)
        (case hsb2_5 => kernel_rfl)
        (case hfb2_5 => kernel_rfl)
        (case hrb2_5 => kernel_rfl)
        (case hQb2_5 => first | exact fun _ _ _ h => h | exact fun _ _ _ h => (nomatch h.1))
        (case hSb2_5 => assumption)
        (case hyb2_5 => (refine Or.inl ⟨by rfl, ?_⟩; intro W hW; skip; go_simp; try with_reducible rfl))
        (try simp only [List.getElem_toArray, List.getElem_cons_succ, List.getElem_cons_zero, Act.put, List.setIfInBounds_toArray, List.set_cons_zero, List.set_cons_succ])
        (refine wpAnyH_take (i := 6) (oi := ?oib2_6) (v := ?vb2_6) ?hib2_6 ?hsb2_6 ?hfb2_6 ?hrb2_6 ?hQb2_6 ?hyb2_6 ?hSb2_6 ?hb2_6)
        (case hib2_6 => rfl)
        (case hsb2_6 => kernel_rfl)
        (case hfb2_6 => kernel_rfl)
        (case hrb2_6 => kernel_rfl)
        (case hQb2_6 => first | exact fun _ _ _ h => h | exact fun _ _ _ h => (nomatch h.1))
        (case hSb2_6 => assumption)
        (case hyb2_6 => (refine Or.inl ⟨by rfl, ?_⟩; intro W hW; skip; go_simp; try with_reducible rfl))
        (try simp only [List.getElem_toArray, List.getElem_cons_succ, List.getElem_cons_zero, Act.put, List.setIfInBounds_toArray, List.set_cons_zero, List.set_cons_succ])
        refine wpAnyH_ready (rs := [8]) (by kernel_rfl) (by simp) ?_
        refine AllReadyH.cons rfl (fun K' hK => ?_) AllReadyH.nil
        go_simp
        refine hK.out _ _ (((hHeld4.setCell (p := ⟨X, 0, none⟩) hXs _).setCell (p := ⟨X, 1, none⟩) hXs _).setCell (p := ⟨X, 2, none⟩) hXs _) (fun hHeld5 => ?_)
        clear hK
        try simp only [List.getElem_toArray, List.getElem_cons_succ, List.getElem_cons_zero, Act.put, List.setIfInBounds_toArray, List.set_cons_zero, List.set_cons_succ]
        (refine wpAnyH_take (i := 9) (oi := ?oib2_9) (v := ?vb2_9) ?hib2_9 ?hsb2_9 ?hfb2_9 ?hrb2_9 ?hQb2_9 ?hyb2_9 ?hSb2_9 ?hb2_9)
        (case hib2_9 => rfl)
        (case hsb2_9 => kernel_rfl)
        (case hfb2_9 => kernel_rfl)
        (case hrb2_9 => kernel_rfl)
        (case hQb2_9 => first | exact fun _ _ _ h => h | exact fun _ _ _ h => (nomatch h.1))
        (case hSb2_9 => assumption)
        (case hyb2_9 => (refine Or.inl ⟨by rfl, ?_⟩; intro W hW; skip; go_simp; try with_reducible rfl))
        (try simp only [List.getElem_toArray, List.getElem_cons_succ, List.getElem_cons_zero, Act.put, List.setIfInBounds_toArray, List.set_cons_zero, List.set_cons_succ])
        refine wpAnyH_done (by kernel_rfl) ?_ _
        have hBX := blk_set (blk_set (blk_set B9 0 (.int .i64 132)) 1 (.int .i64 0)) 2 (.int .i64 0)
        refine ⟨rfl, X, a8, ?_, hBX, hXs, hHeld5⟩
        rfl
    · go_simp
      refine hK.out _ _ (hHeld.alloc (Nat.le_refl _) _) (fun hHeld1 => ?_)
      clear hK
      try simp only [List.getElem_toArray, List.getElem_cons_succ, List.getElem_cons_zero, Act.put, List.setIfInBounds_toArray, List.set_cons_zero, List.set_cons_succ]
      have B7 : (W1.alloc (.cells #[.int .i64 0, .int .i64 0, .int .i64 0] 96)).drew.heap[W1.heap.size]? = some (.cells #[.int .i64 0, .int .i64 0, .int .i64 0] 96 (0, 0)) := blk_drew (MapKept.heap_alloc W1 _).1
      have hXs : W1.heap.size ≤ W1.heap.size := Nat.le_refl _
      generalize (W1.alloc (.cells #[.int .i64 0, .int .i64 0, .int .i64 0] 96)).drew = w7 at B7 hHeld1 ⊢
      refine wpAnyH_ready (rs := [0]) (by kernel_rfl) (by simp) ?_
      refine AllReadyH.cons rfl (fun K' hK => ?_) AllReadyH.nil
      go_simp
      refine (HP.out _).mono ?_
      rintro e8 w8 ⟨⟨a8, rfl, hs8⟩, hb8⟩
      refine hK.out _ _ (Below.then hHeld1 hb8 hHeld1.size) (fun hHeld2 => ?_)
      clear hK
      try simp only [List.getElem_toArray, List.getElem_cons_succ, List.getElem_cons_zero, Act.put, List.setIfInBounds_toArray, List.set_cons_zero, List.set_cons_succ]
      have B8 := blk_below B7 hb8
      refine wpAnyH_ready (rs := [3]) (by kernel_rfl) (by simp) ?_
      refine AllReadyH.cons rfl (fun K' hK => ?_) AllReadyH.nil
      go_simp
      refine (HOb.out _ _ _ hs8).mono ?_
      rintro e9 w9 ⟨rfl, hb9⟩
      refine hK.out _ _ (Below.then hHeld2 hb9 hHeld2.size) (fun hHeld4 => ?_)
      clear hK
      try simp only [List.getElem_toArray, List.getElem_cons_succ, List.getElem_cons_zero, Act.put, List.setIfInBounds_toArray, List.set_cons_zero, List.set_cons_succ]
      have B9 := blk_below B8 hb9
      have x0 : w9.cell? ⟨W1.heap.size, 0, none⟩ = some (.int .i64 0) := blk_cell B9 0 _ rfl
      have y0 := blk_fz B9 0
      have x1 : w9.cell? ⟨W1.heap.size, 1, none⟩ = some (.int .i64 0) := blk_cell B9 1 _ rfl
      have y1 := blk_fz B9 1
      have x2 : w9.cell? ⟨W1.heap.size, 2, none⟩ = some (.int .i64 0) := blk_cell B9 2 _ rfl
      have y2 := blk_fz B9 2
      (refine wpAnyH_take (i := 4) (oi := ?oib3_4) (v := ?vb3_4) ?hib3_4 ?hsb3_4 ?hfb3_4 ?hrb3_4 ?hQb3_4 ?hyb3_4 ?hSb3_4 ?hb3_4)
      (case hib3_4 => rfl)
      (case hsb3_4 => kernel_rfl)
      (case hfb3_4 => kernel_rfl)
      (case hrb3_4 => kernel_rfl)
      (case hQb3_4 => first | exact fun _ _ _ h => h | exact fun _ _ _ h => (nomatch h.1))
      (case hSb3_4 => assumption)
      (case hyb3_4 => (refine Or.inl ⟨by rfl, ?_⟩; intro W hW; skip; go_simp; try with_reducible rfl))
      (try simp only [List.getElem_toArray, List.getElem_cons_succ, List.getElem_cons_zero, Act.put, List.setIfInBounds_toArray, List.set_cons_zero, List.set_cons_succ])
      (refine wpAnyH_take (i := 5) (oi := ?oib3_5) (v := ?vb3_5) ?hib3_5 ?hsb3_5 ?hfb3_5 ?hrb3_5 ?hQb3_5 ?hyb3_5 ?hSb3_5 ?hb3_5)
      (case hib3_5 => rfl)
      (case hsb3_5 => kernel_rfl)
      (case hfb3_5 => kernel_rfl)
      (case hrb3_5 => kernel_rfl)
      (case hQb3_5 => first | exact fun _ _ _ h => h | exact fun _ _ _ h => (nomatch h.1))
      (case hSb3_5 => assumption)
      (case hyb3_5 => (refine Or.inl ⟨by rfl, ?_⟩; intro W hW; skip; go_simp; try with_reducible rfl))
      (try simp only [List.getElem_toArray, List.getElem_cons_succ, List.getElem_cons_zero, Act.put, List.setIfInBounds_toArray, List.set_cons_zero, List.set_cons_succ])
      (refine wpAnyH_take (i := 6) (oi := ?oib3_6) (v := ?vb3_6) ?hib3_6 ?hsb3_6 ?hfb3_6 ?hrb3_6 ?hQb3_6 ?hyb3_6 ?hSb3_6 ?hb3_6)
      (case hib3_6 => rfl)
      (case hsb3_6 => kernel_rfl)
      (case hfb3_6 => kernel_rfl)
      (case hrb3_6 => kernel_rfl)
      (case hQb3_6 => first | exact fun _ _ _ h => h | exact fun _ _ _ h => (nomatch h.1))
      (case hSb3_6 => assumption)
      (case hyb3_6 => (refine Or.inl ⟨by rfl, ?_⟩; intro W hW; skip; go_simp; try with_reducible rfl))
      (try simp only [List.getElem_toArray, List.getElem_cons_succ, List.getElem_cons_zero, Act.put, List.setIfInBounds_toArray, List.set_cons_zero, List.set_cons_succ])
      refine wpAnyH_ready (rs := [8]) (by kernel_rfl) (by simp) ?_
      refine AllReadyH.cons rfl (fun K' hK => ?_) AllReadyH.nil
      go_simp
      refine hK.out _ _ (((hHeld4.setCell (p := ⟨W1.heap.size, 0, none⟩) hXs _).setCell (p := ⟨W1.heap.size, 1, none⟩) hXs _).setCell (p := ⟨W1.heap.size, 2, none⟩) hXs _) (fun hHeld5 => ?_)
      clear hK
      try simp only [List.getElem_toArray, List.getElem_cons_succ, List.getElem_cons_zero, Act.put, List.setIfInBounds_toArray, List.set_cons_zero, List.set_cons_succ]
      (refine wpAnyH_take (i := 9) (oi := ?oib3_9) (v := ?vb3_9) ?hib3_9 ?hsb3_9 ?hfb3_9 ?hrb3_9 ?hQb3_9 ?hyb3_9 ?hSb3_9 ?hb3_9)
      (case hib3_9 => rfl)
      (case hsb3_9 => kernel_rfl)
      (case hfb3_9 => kernel_rfl)
      (case hrb3_9 => kernel_rfl)
      (case hQb3_9 => first | exact fun _ _ _ h => h | exact fun _ _ _ h => (nomatch h.1))
      (case hSb3_9 => assumption)
      (case hyb3_9 => (refine Or.inl ⟨by rfl, ?_⟩; intro W hW; skip; go_simp; try with_reducible rfl))
      (try simp only [List.getElem_toArray, List.getElem_cons_succ, List.getElem_cons_zero, Act.put, List.setIfInBounds_toArray, List.set_cons_zero, List.set_cons_succ])
      refine wpAnyH_done (by kernel_rfl) ?_ _
      have hBX := blk_set (blk_set (blk_set B9 0 (.int .i64 132)) 1 (.int .i64 0)) 2 (.int .i64 0)
      refine ⟨rfl, W1.heap.size, a8, ?_, hBX, hXs, hHeld5⟩
      rfl
  case impb =>
  rintro e ac W2 ⟨rfl, Xb, A8b, rfl, Bb, hXb, hBl2⟩
  have T2 := blk_below T1 hBl2
  have hb2 := Below.then hb1 hBl2 hb1.size
  clear t0 t1 t2 t3 t4 t5 t6 t7 t8 t9 t10 t11 t12
  replace Ba := blk_below Ba hBl2
  go_wp2_with fail
  have lT2 := blk_lt T2
  have t0 : W2.cell? ⟨TB, 0, none⟩ = some (.int .i64 0) := blk_cell T2 0 _ rfl
  have t1 : W2.cell? ⟨TB, 1, none⟩ = some (.int .i64 0) := blk_cell T2 1 _ rfl
  have t2 : W2.cell? ⟨TB, 2, none⟩ = some (.int .i64 0) := blk_cell T2 2 _ rfl
  have t3 : W2.cell? ⟨TB, 3, none⟩ = some (.int .i64 0) := blk_cell T2 3 _ rfl
  have t4 : W2.cell? ⟨TB, 4, none⟩ = some (.int .i64 0) := blk_cell T2 4 _ rfl
  have t5 : W2.cell? ⟨TB, 5, none⟩ = some (.int .i64 0) := blk_cell T2 5 _ rfl
  have t6 : W2.cell? ⟨TB, 6, none⟩ = some (.int .i64 0) := blk_cell T2 6 _ rfl
  have t7 : W2.cell? ⟨TB, 7, none⟩ = some (.int .u64 40) := blk_cell T2 7 _ rfl
  have t8 : W2.cell? ⟨TB, 8, none⟩ = some (.int .u64 0) := blk_cell T2 8 _ rfl
  have t9 : W2.cell? ⟨TB, 9, none⟩ = some (.int .u64 0) := blk_cell T2 9 _ rfl
  have t10 : W2.cell? ⟨TB, 10, none⟩ = some (.int .u64 0) := blk_cell T2 10 _ rfl
  have t11 : W2.cell? ⟨TB, 11, none⟩ = some (.int .u64 0) := blk_cell T2 11 _ rfl
  have t12 : W2.cell? ⟨TB, 12, none⟩ = some (.int .u64 0) := blk_cell T2 12 _ rfl
  refine Code.wp_mono (Q := fun e a W => e = Exit.normal ∧ ∃ (X : Nat) (A8 : Option Addr), a = (?frameOfc : Nat → Option Addr → Act) X A8 ∧ (W.heap[X]? = some (.cells #[.int .i64 131, .int .i64 0, .int .i64 0] 96 (0, 0)) ∧ W2.heap.size ≤ X ∧ Below W2.heap.size W2 W)) ?impc ?regc
  case regc =>
    refine wp_region_held_drew (S := fun A => Below W2.heap.size W2 A) (by kernel_rfl) (Below.refl _ _).drew (fun hHeld => ?_)
    (refine wpAnyH_take (i := 1) (oi := ?oic0_1) (v := ?vc0_1) ?hic0_1 ?hsc0_1 ?hfc0_1 ?hrc0_1 ?hQc0_1 ?hyc0_1 ?hSc0_1 ?hc0_1)
    (case hic0_1 => rfl)
    (case hsc0_1 => kernel_rfl)
    (case hfc0_1 => kernel_rfl)
    (case hrc0_1 => kernel_rfl)
    (case hQc0_1 => first | exact fun _ _ _ h => h | exact fun _ _ _ h => (nomatch h.1))
    (case hSc0_1 => assumption)
    (case hyc0_1 => (refine Or.inl ⟨by rfl, ?_⟩; intro W hW; (have k0 := (hW.cell (p := ⟨TB, 0, none⟩) lT2).trans t0; have k1 := (hW.cell (p := ⟨TB, 1, none⟩) lT2).trans t1; have k2 := (hW.cell (p := ⟨TB, 2, none⟩) lT2).trans t2; have k3 := (hW.cell (p := ⟨TB, 3, none⟩) lT2).trans t3; have k4 := (hW.cell (p := ⟨TB, 4, none⟩) lT2).trans t4; have k5 := (hW.cell (p := ⟨TB, 5, none⟩) lT2).trans t5; have k6 := (hW.cell (p := ⟨TB, 6, none⟩) lT2).trans t6; have k7 := (hW.cell (p := ⟨TB, 7, none⟩) lT2).trans t7; have k8 := (hW.cell (p := ⟨TB, 8, none⟩) lT2).trans t8; have k9 := (hW.cell (p := ⟨TB, 9, none⟩) lT2).trans t9; have k10 := (hW.cell (p := ⟨TB, 10, none⟩) lT2).trans t10; have k11 := (hW.cell (p := ⟨TB, 11, none⟩) lT2).trans t11; have k12 := (hW.cell (p := ⟨TB, 12, none⟩) lT2).trans t12); go_simp; try with_reducible rfl))
    (try simp only [List.getElem_toArray, List.getElem_cons_succ, List.getElem_cons_zero, Act.put, List.setIfInBounds_toArray, List.set_cons_zero, List.set_cons_succ])
    (refine wpAnyH_take (i := 2) (oi := ?oic0_2) (v := ?vc0_2) ?hic0_2 ?hsc0_2 ?hfc0_2 ?hrc0_2 ?hQc0_2 ?hyc0_2 ?hSc0_2 ?hc0_2)
    (case hic0_2 => rfl)
    (case hsc0_2 => kernel_rfl)
    (case hfc0_2 => kernel_rfl)
    (case hrc0_2 => kernel_rfl)
    (case hQc0_2 => first | exact fun _ _ _ h => h | exact fun _ _ _ h => (nomatch h.1))
    (case hSc0_2 => assumption)
    (case hyc0_2 => (refine Or.inl ⟨by rfl, ?_⟩; intro W hW; skip; go_simp; try with_reducible rfl))
    (try simp only [List.getElem_toArray, List.getElem_cons_succ, List.getElem_cons_zero, Act.put, List.setIfInBounds_toArray, List.set_cons_zero, List.set_cons_succ])
    refine wpAnyH_ready (rs := [0, 7]) (by kernel_rfl) (by simp) ?_
    refine AllReadyH.cons rfl (fun K' hK => ?_) (AllReadyH.cons rfl (fun K' hK => ?_) AllReadyH.nil)
    · go_simp
      refine (HP.out _).mono ?_
      rintro e8 w8 ⟨⟨a8, rfl, hs8⟩, hb8⟩
      refine hK.out _ _ (Below.then hHeld hb8 hHeld.size) (fun hHeld1 => ?_)
      clear hK
      try simp only [List.getElem_toArray, List.getElem_cons_succ, List.getElem_cons_zero, Act.put, List.setIfInBounds_toArray, List.set_cons_zero, List.set_cons_succ]
      refine wpAnyH_ready (rs := [3, 7]) (by kernel_rfl) (by simp) ?_
      refine AllReadyH.cons rfl (fun K' hK => ?_) (AllReadyH.cons rfl (fun K' hK => ?_) AllReadyH.nil)
      · go_simp
        refine (HOc.out _ _ _ hs8).mono ?_
        rintro e9 w9 ⟨rfl, hb9⟩
        refine hK.out _ _ (Below.then hHeld1 hb9 hHeld1.size) (fun hHeld2 => ?_)
        clear hK
        try simp only [List.getElem_toArray, List.getElem_cons_succ, List.getElem_cons_zero, Act.put, List.setIfInBounds_toArray, List.set_cons_zero, List.set_cons_succ]
        (refine wpAnyH_take (i := 4) (oi := ?oic1_4) (v := ?vc1_4) ?hic1_4 ?hsc1_4 ?hfc1_4 ?hrc1_4 ?hQc1_4 ?hyc1_4 ?hSc1_4 ?hc1_4)
        (case hic1_4 => rfl)
        (case hsc1_4 => kernel_rfl)
        (case hfc1_4 => kernel_rfl)
        (case hrc1_4 => kernel_rfl)
        (case hQc1_4 => first | exact fun _ _ _ h => h | exact fun _ _ _ h => (nomatch h.1))
        (case hSc1_4 => assumption)
        (case hyc1_4 => (refine Or.inl ⟨by rfl, ?_⟩; intro W hW; skip; go_simp; try with_reducible rfl))
        (try simp only [List.getElem_toArray, List.getElem_cons_succ, List.getElem_cons_zero, Act.put, List.setIfInBounds_toArray, List.set_cons_zero, List.set_cons_succ])
        (refine wpAnyH_take (i := 5) (oi := ?oic1_5) (v := ?vc1_5) ?hic1_5 ?hsc1_5 ?hfc1_5 ?hrc1_5 ?hQc1_5 ?hyc1_5 ?hSc1_5 ?hc1_5)
        (case hic1_5 => rfl)
        (case hsc1_5 => kernel_rfl)
        (case hfc1_5 => kernel_rfl)
        (case hrc1_5 => kernel_rfl)
        (case hQc1_5 => first | exact fun _ _ _ h => h | exact fun _ _ _ h => (nomatch h.1))
        (case hSc1_5 => assumption)
        (case hyc1_5 => (refine Or.inl ⟨by rfl, ?_⟩; intro W hW; skip; go_simp; try with_reducible rfl))
        (try simp only [List.getElem_toArray, List.getElem_cons_succ, List.getElem_cons_zero, Act.put, List.setIfInBounds_toArray, List.set_cons_zero, List.set_cons_succ])
        (refine wpAnyH_take (i := 6) (oi := ?oic1_6) (v := ?vc1_6) ?hic1_6 ?hsc1_6 ?hfc1_6 ?hrc1_6 ?hQc1_6 ?hyc1_6 ?hSc1_6 ?hc1_6)
        (case hic1_6 => rfl)
        (case hsc1_6 => kernel_rfl)
        (case hfc1_6 => kernel_rfl)
        (case hrc1_6 => kernel_rfl)
        (case hQc1_6 => first | exact fun _ _ _ h => h | exact fun _ _ _ h => (nomatch h.1))
        (case hSc1_6 => assumption)
        (case hyc1_6 => (refine Or.inl ⟨by rfl, ?_⟩; intro W hW; skip; go_simp; try with_reducible rfl))
        (try simp only [List.getElem_toArray, List.getElem_cons_succ, List.getElem_cons_zero, Act.put, List.setIfInBounds_toArray, List.set_cons_zero, List.set_cons_succ])
        refine wpAnyH_ready (rs := [7]) (by kernel_rfl) (by simp) ?_
        refine AllReadyH.cons rfl (fun K' hK => ?_) AllReadyH.nil
        go_simp
        refine hK.out _ _ (hHeld2.alloc hHeld2.size _) (fun hHeld3 => ?_)
        clear hK
        try simp only [List.getElem_toArray, List.getElem_cons_succ, List.getElem_cons_zero, Act.put, List.setIfInBounds_toArray, List.set_cons_zero, List.set_cons_succ]
        refine wpAnyH_ready (rs := [8]) (by kernel_rfl) (by simp) ?_
        refine AllReadyH.cons rfl (fun K' hK => ?_) AllReadyH.nil
        go_simp
        refine hK.out _ _ (hHeld2.alloc hHeld2.size _) (fun hHeld4 => ?_)
        clear hK
        try simp only [List.getElem_toArray, List.getElem_cons_succ, List.getElem_cons_zero, Act.put, List.setIfInBounds_toArray, List.set_cons_zero, List.set_cons_succ]
        (refine wpAnyH_take (i := 9) (oi := ?oic1_9) (v := ?vc1_9) ?hic1_9 ?hsc1_9 ?hfc1_9 ?hrc1_9 ?hQc1_9 ?hyc1_9 ?hSc1_9 ?hc1_9)
        (case hic1_9 => rfl)
        (case hsc1_9 => kernel_rfl)
        (case hfc1_9 => kernel_rfl)
        (case hrc1_9 => kernel_rfl)
        (case hQc1_9 => first | exact fun _ _ _ h => h | exact fun _ _ _ h => (nomatch h.1))
        (case hSc1_9 => assumption)
        (case hyc1_9 => (refine Or.inl ⟨by rfl, ?_⟩; intro W hW; skip; go_simp; try with_reducible rfl))
        (try simp only [List.getElem_toArray, List.getElem_cons_succ, List.getElem_cons_zero, Act.put, List.setIfInBounds_toArray, List.set_cons_zero, List.set_cons_succ])
        refine wpAnyH_done (by kernel_rfl) ?_ _
        obtain ⟨X, hX⟩ : ∃ X, w9.heap.size = X := ⟨_, rfl⟩
        have hXs : W2.heap.size ≤ w9.heap.size := hHeld2.size
        have hBX : (w9.alloc (.cells #[.int .i64 131, .int .i64 0, .int .i64 0] 96)).heap[X]? = some (.cells #[.int .i64 131, .int .i64 0, .int .i64 0] 96 (0, 0)) := by rw [← hX]; exact (MapKept.heap_alloc w9 _).1
        refine ⟨rfl, X, a8, ?_, hBX, by omega, hHeld4⟩
        rw [hX]
      · go_simp
        refine hK.out _ _ (hHeld1.alloc hHeld1.size _) (fun hHeld2 => ?_)
        clear hK
        try simp only [List.getElem_toArray, List.getElem_cons_succ, List.getElem_cons_zero, Act.put, List.setIfInBounds_toArray, List.set_cons_zero, List.set_cons_succ]
        have B8 : (w8.alloc (.cells #[.int .i64 0, .int .i64 0, .int .i64 0] 96)).heap[w8.heap.size]? = some (.cells #[.int .i64 0, .int .i64 0, .int .i64 0] 96 (0, 0)) := (MapKept.heap_alloc w8 _).1
        have hs8' := hs8.alloc (.cells #[.int .i64 0, .int .i64 0, .int .i64 0] 96)
        have hXs : W2.heap.size ≤ w8.heap.size := hHeld1.size
        generalize w8.alloc (.cells #[.int .i64 0, .int .i64 0, .int .i64 0] 96) = w7 at B8 hs8' hHeld2 ⊢
        generalize w8.heap.size = X at B8 hXs ⊢
        refine wpAnyH_ready (rs := [3]) (by kernel_rfl) (by simp) ?_
        refine AllReadyH.cons rfl (fun K' hK => ?_) AllReadyH.nil
        go_simp
        refine (HOc.out _ _ _ hs8').mono ?_
        rintro e9 w9 ⟨rfl, hb9⟩
        refine hK.out _ _ (Below.then hHeld2 hb9 hHeld2.size) (fun hHeld4 => ?_)
        clear hK
        try simp only [List.getElem_toArray, List.getElem_cons_succ, List.getElem_cons_zero, Act.put, List.setIfInBounds_toArray, List.set_cons_zero, List.set_cons_succ]
        have B9 := blk_below B8 hb9
        have x0 : w9.cell? ⟨X, 0, none⟩ = some (.int .i64 0) := blk_cell B9 0 _ rfl
        have y0 := blk_fz B9 0
        have x1 : w9.cell? ⟨X, 1, none⟩ = some (.int .i64 0) := blk_cell B9 1 _ rfl
        have y1 := blk_fz B9 1
        have x2 : w9.cell? ⟨X, 2, none⟩ = some (.int .i64 0) := blk_cell B9 2 _ rfl
        have y2 := blk_fz B9 2
        (refine wpAnyH_take (i := 4) (oi := ?oic2_4) (v := ?vc2_4) ?hic2_4 ?hsc2_4 ?hfc2_4 ?hrc2_4 ?hQc2_4 ?hyc2_4 ?hSc2_4 ?hc2_4)
        (case hic2_4 => rfl)
        (case hsc2_4 => kernel_rfl)
        (case hfc2_4 => kernel_rfl)
        (case hrc2_4 => kernel_rfl)
        (case hQc2_4 => first | exact fun _ _ _ h => h | exact fun _ _ _ h => (nomatch h.1))
        (case hSc2_4 => assumption)
        (case hyc2_4 => (refine Or.inl ⟨by rfl, ?_⟩; intro W hW; skip; go_simp; try with_reducible rfl))
        (try simp only [List.getElem_toArray, List.getElem_cons_succ, List.getElem_cons_zero, Act.put, List.setIfInBounds_toArray, List.set_cons_zero, List.set_cons_succ])
        (refine wpAnyH_take (i := 5) (oi := ?oic2_5) (v := ?vc2_5) ?hic2_5 ?hsc2_5 ?hfc2_5 ?hrc2_5 ?hQc2_5 ?hyc2_5 ?hSc2_5 ?hc2_5)
        (case hic2_5 => rfl)
        (case hsc2_5 => kernel_rfl)
        (case hfc2_5 => kernel_rfl)
        (case hrc2_5 => kernel_rfl)
        (case hQc2_5 => first | exact fun _ _ _ h => h | exact fun _ _ _ h => (nomatch h.1))
        (case hSc2_5 => assumption)
        (case hyc2_5 => (refine Or.inl ⟨by rfl, ?_⟩; intro W hW; skip; go_simp; try with_reducible rfl))
        (try simp only [List.getElem_toArray, List.getElem_cons_succ, List.getElem_cons_zero, Act.put, List.setIfInBounds_toArray, List.set_cons_zero, List.set_cons_succ])
        (refine wpAnyH_take (i := 6) (oi := ?oic2_6) (v := ?vc2_6) ?hic2_6 ?hsc2_6 ?hfc2_6 ?hrc2_6 ?hQc2_6 ?hyc2_6 ?hSc2_6 ?hc2_6)
        (case hic2_6 => rfl)
        (case hsc2_6 => kernel_rfl)
        (case hfc2_6 => kernel_rfl)
        (case hrc2_6 => kernel_rfl)
        (case hQc2_6 => first | exact fun _ _ _ h => h | exact fun _ _ _ h => (nomatch h.1))
        (case hSc2_6 => assumption)
        (case hyc2_6 => (refine Or.inl ⟨by rfl, ?_⟩; intro W hW; skip; go_simp; try with_reducible rfl))
        (try simp only [List.getElem_toArray, List.getElem_cons_succ, List.getElem_cons_zero, Act.put, List.setIfInBounds_toArray, List.set_cons_zero, List.set_cons_succ])
        refine wpAnyH_ready (rs := [8]) (by kernel_rfl) (by simp) ?_
        refine AllReadyH.cons rfl (fun K' hK => ?_) AllReadyH.nil
        go_simp
        refine hK.out _ _ (((hHeld4.setCell (p := ⟨X, 0, none⟩) hXs _).setCell (p := ⟨X, 1, none⟩) hXs _).setCell (p := ⟨X, 2, none⟩) hXs _) (fun hHeld5 => ?_)
        clear hK
        try simp only [List.getElem_toArray, List.getElem_cons_succ, List.getElem_cons_zero, Act.put, List.setIfInBounds_toArray, List.set_cons_zero, List.set_cons_succ]
        (refine wpAnyH_take (i := 9) (oi := ?oic2_9) (v := ?vc2_9) ?hic2_9 ?hsc2_9 ?hfc2_9 ?hrc2_9 ?hQc2_9 ?hyc2_9 ?hSc2_9 ?hc2_9)
        (case hic2_9 => rfl)
        (case hsc2_9 => kernel_rfl)
        (case hfc2_9 => kernel_rfl)
        (case hrc2_9 => kernel_rfl)
        (case hQc2_9 => first | exact fun _ _ _ h => h | exact fun _ _ _ h => (nomatch h.1))
        (case hSc2_9 => assumption)
        (case hyc2_9 => (refine Or.inl ⟨by rfl, ?_⟩; intro W hW; skip; go_simp; try with_reducible rfl))
        (try simp only [List.getElem_toArray, List.getElem_cons_succ, List.getElem_cons_zero, Act.put, List.setIfInBounds_toArray, List.set_cons_zero, List.set_cons_succ])
        refine wpAnyH_done (by kernel_rfl) ?_ _
        have hBX := blk_set (blk_set (blk_set B9 0 (.int .i64 131)) 1 (.int .i64 0)) 2 (.int .i64 0)
        refine ⟨rfl, X, a8, ?_, hBX, hXs, hHeld5⟩
        rfl
    · go_simp
      refine hK.out _ _ (hHeld.alloc (Nat.le_refl _) _) (fun hHeld1 => ?_)
      clear hK
      try simp only [List.getElem_toArray, List.getElem_cons_succ, List.getElem_cons_zero, Act.put, List.setIfInBounds_toArray, List.set_cons_zero, List.set_cons_succ]
      have B7 : (W2.alloc (.cells #[.int .i64 0, .int .i64 0, .int .i64 0] 96)).drew.heap[W2.heap.size]? = some (.cells #[.int .i64 0, .int .i64 0, .int .i64 0] 96 (0, 0)) := blk_drew (MapKept.heap_alloc W2 _).1
      have hXs : W2.heap.size ≤ W2.heap.size := Nat.le_refl _
      generalize (W2.alloc (.cells #[.int .i64 0, .int .i64 0, .int .i64 0] 96)).drew = w7 at B7 hHeld1 ⊢
      refine wpAnyH_ready (rs := [0]) (by kernel_rfl) (by simp) ?_
      refine AllReadyH.cons rfl (fun K' hK => ?_) AllReadyH.nil
      go_simp
      refine (HP.out _).mono ?_
      rintro e8 w8 ⟨⟨a8, rfl, hs8⟩, hb8⟩
      refine hK.out _ _ (Below.then hHeld1 hb8 hHeld1.size) (fun hHeld2 => ?_)
      clear hK
      try simp only [List.getElem_toArray, List.getElem_cons_succ, List.getElem_cons_zero, Act.put, List.setIfInBounds_toArray, List.set_cons_zero, List.set_cons_succ]
      have B8 := blk_below B7 hb8
      refine wpAnyH_ready (rs := [3]) (by kernel_rfl) (by simp) ?_
      refine AllReadyH.cons rfl (fun K' hK => ?_) AllReadyH.nil
      go_simp
      refine (HOc.out _ _ _ hs8).mono ?_
      rintro e9 w9 ⟨rfl, hb9⟩
      refine hK.out _ _ (Below.then hHeld2 hb9 hHeld2.size) (fun hHeld4 => ?_)
      clear hK
      try simp only [List.getElem_toArray, List.getElem_cons_succ, List.getElem_cons_zero, Act.put, List.setIfInBounds_toArray, List.set_cons_zero, List.set_cons_succ]
      have B9 := blk_below B8 hb9
      have x0 : w9.cell? ⟨W2.heap.size, 0, none⟩ = some (.int .i64 0) := blk_cell B9 0 _ rfl
      have y0 := blk_fz B9 0
      have x1 : w9.cell? ⟨W2.heap.size, 1, none⟩ = some (.int .i64 0) := blk_cell B9 1 _ rfl
      have y1 := blk_fz B9 1
      have x2 : w9.cell? ⟨W2.heap.size, 2, none⟩ = some (.int .i64 0) := blk_cell B9 2 _ rfl
      have y2 := blk_fz B9 2
      (refine wpAnyH_take (i := 4) (oi := ?oic3_4) (v := ?vc3_4) ?hic3_4 ?hsc3_4 ?hfc3_4 ?hrc3_4 ?hQc3_4 ?hyc3_4 ?hSc3_4 ?hc3_4)
      (case hic3_4 => rfl)
      (case hsc3_4 => kernel_rfl)
      (case hfc3_4 => kernel_rfl)
      (case hrc3_4 => kernel_rfl)
      (case hQc3_4 => first | exact fun _ _ _ h => h | exact fun _ _ _ h => (nomatch h.1))
      (case hSc3_4 => assumption)
      (case hyc3_4 => (refine Or.inl ⟨by rfl, ?_⟩; intro W hW; skip; go_simp; try with_reducible rfl))
      (try simp only [List.getElem_toArray, List.getElem_cons_succ, List.getElem_cons_zero, Act.put, List.setIfInBounds_toArray, List.set_cons_zero, List.set_cons_succ])
      (refine wpAnyH_take (i := 5) (oi := ?oic3_5) (v := ?vc3_5) ?hic3_5 ?hsc3_5 ?hfc3_5 ?hrc3_5 ?hQc3_5 ?hyc3_5 ?hSc3_5 ?hc3_5)
      (case hic3_5 => rfl)
      (case hsc3_5 => kernel_rfl)
      (case hfc3_5 => kernel_rfl)
      (case hrc3_5 => kernel_rfl)
      (case hQc3_5 => first | exact fun _ _ _ h => h | exact fun _ _ _ h => (nomatch h.1))
      (case hSc3_5 => assumption)
      (case hyc3_5 => (refine Or.inl ⟨by rfl, ?_⟩; intro W hW; skip; go_simp; try with_reducible rfl))
      (try simp only [List.getElem_toArray, List.getElem_cons_succ, List.getElem_cons_zero, Act.put, List.setIfInBounds_toArray, List.set_cons_zero, List.set_cons_succ])
      (refine wpAnyH_take (i := 6) (oi := ?oic3_6) (v := ?vc3_6) ?hic3_6 ?hsc3_6 ?hfc3_6 ?hrc3_6 ?hQc3_6 ?hyc3_6 ?hSc3_6 ?hc3_6)
      (case hic3_6 => rfl)
      (case hsc3_6 => kernel_rfl)
      (case hfc3_6 => kernel_rfl)
      (case hrc3_6 => kernel_rfl)
      (case hQc3_6 => first | exact fun _ _ _ h => h | exact fun _ _ _ h => (nomatch h.1))
      (case hSc3_6 => assumption)
      (case hyc3_6 => (refine Or.inl ⟨by rfl, ?_⟩; intro W hW; skip; go_simp; try with_reducible rfl))
      (try simp only [List.getElem_toArray, List.getElem_cons_succ, List.getElem_cons_zero, Act.put, List.setIfInBounds_toArray, List.set_cons_zero, List.set_cons_succ])
      refine wpAnyH_ready (rs := [8]) (by kernel_rfl) (by simp) ?_
      refine AllReadyH.cons rfl (fun K' hK => ?_) AllReadyH.nil
      go_simp
      refine hK.out _ _ (((hHeld4.setCell (p := ⟨W2.heap.size, 0, none⟩) hXs _).setCell (p := ⟨W2.heap.size, 1, none⟩) hXs _).setCell (p := ⟨W2.heap.size, 2, none⟩) hXs _) (fun hHeld5 => ?_)
      clear hK
      try simp only [List.getElem_toArray, List.getElem_cons_succ, List.getElem_cons_zero, Act.put, List.setIfInBounds_toArray, List.set_cons_zero, List.set_cons_succ]
      (refine wpAnyH_take (i := 9) (oi := ?oic3_9) (v := ?vc3_9) ?hic3_9 ?hsc3_9 ?hfc3_9 ?hrc3_9 ?hQc3_9 ?hyc3_9 ?hSc3_9 ?hc3_9)
      (case hic3_9 => rfl)
      (case hsc3_9 => kernel_rfl)
      (case hfc3_9 => kernel_rfl)
      (case hrc3_9 => kernel_rfl)
      (case hQc3_9 => first | exact fun _ _ _ h => h | exact fun _ _ _ h => (nomatch h.1))
      (case hSc3_9 => assumption)
      (case hyc3_9 => (refine Or.inl ⟨by rfl, ?_⟩; intro W hW; skip; go_simp; try with_reducible rfl))
      (try simp only [List.getElem_toArray, List.getElem_cons_succ, List.getElem_cons_zero, Act.put, List.setIfInBounds_toArray, List.set_cons_zero, List.set_cons_succ])
      refine wpAnyH_done (by kernel_rfl) ?_ _
      have hBX := blk_set (blk_set (blk_set B9 0 (.int .i64 131)) 1 (.int .i64 0)) 2 (.int .i64 0)
      refine ⟨rfl, W2.heap.size, a8, ?_, hBX, hXs, hHeld5⟩
      rfl
  case impc =>
  rintro e ac W3 ⟨rfl, Xc, A8c, rfl, Bc, hXc, hBl3⟩
  have T3 := blk_below T2 hBl3
  have hb3 := Below.then hb2 hBl3 hb2.size
  clear t0 t1 t2 t3 t4 t5 t6 t7 t8 t9 t10 t11 t12
  replace Ba := blk_below Ba hBl3
  replace Bb := blk_below Bb hBl3
  go_wp2_with fail
  have lT3 := blk_lt T3
  have t0 : W3.cell? ⟨TB, 0, none⟩ = some (.int .i64 0) := blk_cell T3 0 _ rfl
  have t1 : W3.cell? ⟨TB, 1, none⟩ = some (.int .i64 0) := blk_cell T3 1 _ rfl
  have t2 : W3.cell? ⟨TB, 2, none⟩ = some (.int .i64 0) := blk_cell T3 2 _ rfl
  have t3 : W3.cell? ⟨TB, 3, none⟩ = some (.int .i64 0) := blk_cell T3 3 _ rfl
  have t4 : W3.cell? ⟨TB, 4, none⟩ = some (.int .i64 0) := blk_cell T3 4 _ rfl
  have t5 : W3.cell? ⟨TB, 5, none⟩ = some (.int .i64 0) := blk_cell T3 5 _ rfl
  have t6 : W3.cell? ⟨TB, 6, none⟩ = some (.int .i64 0) := blk_cell T3 6 _ rfl
  have t7 : W3.cell? ⟨TB, 7, none⟩ = some (.int .u64 40) := blk_cell T3 7 _ rfl
  have t8 : W3.cell? ⟨TB, 8, none⟩ = some (.int .u64 0) := blk_cell T3 8 _ rfl
  have t9 : W3.cell? ⟨TB, 9, none⟩ = some (.int .u64 0) := blk_cell T3 9 _ rfl
  have t10 : W3.cell? ⟨TB, 10, none⟩ = some (.int .u64 0) := blk_cell T3 10 _ rfl
  have t11 : W3.cell? ⟨TB, 11, none⟩ = some (.int .u64 0) := blk_cell T3 11 _ rfl
  have t12 : W3.cell? ⟨TB, 12, none⟩ = some (.int .u64 0) := blk_cell T3 12 _ rfl
  refine Code.wp_mono (Q := fun e a W => e = Exit.normal ∧ ∃ (X : Nat) (A8 : Option Addr), a = (?frameOfd : Nat → Option Addr → Act) X A8 ∧ (W.heap[X]? = some (.cells #[.int .i64 183, .int .i64 0, .int .i64 0] 96 (0, 0)) ∧ W3.heap.size ≤ X ∧ Below W3.heap.size W3 W)) ?impd ?regd
  case regd =>
    refine wp_region_held_drew (S := fun A => Below W3.heap.size W3 A) (by kernel_rfl) (Below.refl _ _).drew (fun hHeld => ?_)
    (refine wpAnyH_take (i := 1) (oi := ?oid0_1) (v := ?vd0_1) ?hid0_1 ?hsd0_1 ?hfd0_1 ?hrd0_1 ?hQd0_1 ?hyd0_1 ?hSd0_1 ?hd0_1)
    (case hid0_1 => rfl)
    (case hsd0_1 => kernel_rfl)
    (case hfd0_1 => kernel_rfl)
    (case hrd0_1 => kernel_rfl)
    (case hQd0_1 => first | exact fun _ _ _ h => h | exact fun _ _ _ h => (nomatch h.1))
    (case hSd0_1 => assumption)
    (case hyd0_1 => (refine Or.inl ⟨by rfl, ?_⟩; intro W hW; (have k0 := (hW.cell (p := ⟨TB, 0, none⟩) lT3).trans t0; have k1 := (hW.cell (p := ⟨TB, 1, none⟩) lT3).trans t1; have k2 := (hW.cell (p := ⟨TB, 2, none⟩) lT3).trans t2; have k3 := (hW.cell (p := ⟨TB, 3, none⟩) lT3).trans t3; have k4 := (hW.cell (p := ⟨TB, 4, none⟩) lT3).trans t4; have k5 := (hW.cell (p := ⟨TB, 5, none⟩) lT3).trans t5; have k6 := (hW.cell (p := ⟨TB, 6, none⟩) lT3).trans t6; have k7 := (hW.cell (p := ⟨TB, 7, none⟩) lT3).trans t7; have k8 := (hW.cell (p := ⟨TB, 8, none⟩) lT3).trans t8; have k9 := (hW.cell (p := ⟨TB, 9, none⟩) lT3).trans t9; have k10 := (hW.cell (p := ⟨TB, 10, none⟩) lT3).trans t10; have k11 := (hW.cell (p := ⟨TB, 11, none⟩) lT3).trans t11; have k12 := (hW.cell (p := ⟨TB, 12, none⟩) lT3).trans t12); go_simp; try with_reducible rfl))
    (try simp only [List.getElem_toArray, List.getElem_cons_succ, List.getElem_cons_zero, Act.put, List.setIfInBounds_toArray, List.set_cons_zero, List.set_cons_succ])
    (refine wpAnyH_take (i := 2) (oi := ?oid0_2) (v := ?vd0_2) ?hid0_2 ?hsd0_2 ?hfd0_2 ?hrd0_2 ?hQd0_2 ?hyd0_2 ?hSd0_2 ?hd0_2)
    (case hid0_2 => rfl)
    (case hsd0_2 => kernel_rfl)
    (case hfd0_2 => kernel_rfl)
    (case hrd0_2 => kernel_rfl)
    (case hQd0_2 => first | exact fun _ _ _ h => h | exact fun _ _ _ h => (nomatch h.1))
    (case hSd0_2 => assumption)
    (case hyd0_2 => (refine Or.inl ⟨by rfl, ?_⟩; intro W hW; skip; go_simp; try with_reducible rfl))
    (try simp only [List.getElem_toArray, List.getElem_cons_succ, List.getElem_cons_zero, Act.put, List.setIfInBounds_toArray, List.set_cons_zero, List.set_cons_succ])
    refine wpAnyH_ready (rs := [0, 7]) (by kernel_rfl) (by simp) ?_
    refine AllReadyH.cons rfl (fun K' hK => ?_) (AllReadyH.cons rfl (fun K' hK => ?_) AllReadyH.nil)
    · go_simp
      refine (HP.out _).mono ?_
      rintro e8 w8 ⟨⟨a8, rfl, hs8⟩, hb8⟩
      refine hK.out _ _ (Below.then hHeld hb8 hHeld.size) (fun hHeld1 => ?_)
      clear hK
      try simp only [List.getElem_toArray, List.getElem_cons_succ, List.getElem_cons_zero, Act.put, List.setIfInBounds_toArray, List.set_cons_zero, List.set_cons_succ]
      refine wpAnyH_ready (rs := [3, 7]) (by kernel_rfl) (by simp) ?_
      refine AllReadyH.cons rfl (fun K' hK => ?_) (AllReadyH.cons rfl (fun K' hK => ?_) AllReadyH.nil)
      · go_simp
        refine (HOd.out _ _ _ hs8).mono ?_
        rintro e9 w9 ⟨rfl, hb9⟩
        refine hK.out _ _ (Below.then hHeld1 hb9 hHeld1.size) (fun hHeld2 => ?_)
        clear hK
        try simp only [List.getElem_toArray, List.getElem_cons_succ, List.getElem_cons_zero, Act.put, List.setIfInBounds_toArray, List.set_cons_zero, List.set_cons_succ]
        (refine wpAnyH_take (i := 4) (oi := ?oid1_4) (v := ?vd1_4) ?hid1_4 ?hsd1_4 ?hfd1_4 ?hrd1_4 ?hQd1_4 ?hyd1_4 ?hSd1_4 ?hd1_4)
        (case hid1_4 => rfl)
        (case hsd1_4 => kernel_rfl)
        (case hfd1_4 => kernel_rfl)
        (case hrd1_4 => kernel_rfl)
        (case hQd1_4 => first | exact fun _ _ _ h => h | exact fun _ _ _ h => (nomatch h.1))
        (case hSd1_4 => assumption)
        (case hyd1_4 => (refine Or.inl ⟨by rfl, ?_⟩; intro W hW; skip; go_simp; try with_reducible rfl))
        (try simp only [List.getElem_toArray, List.getElem_cons_succ, List.getElem_cons_zero, Act.put, List.setIfInBounds_toArray, List.set_cons_zero, List.set_cons_succ])
        (refine wpAnyH_take (i := 5) (oi := ?oid1_5) (v := ?vd1_5) ?hid1_5 ?hsd1_5 ?hfd1_5 ?hrd1_5 ?hQd1_5 ?hyd1_5 ?hSd1_5 ?hd1_5)
        (case hid1_5 => rfl)
        (case hsd1_5 => kernel_rfl)
        (case hfd1_5 => kernel_rfl)
        (case hrd1_5 => kernel_rfl)
        (case hQd1_5 => first | exact fun _ _ _ h => h | exact fun _ _ _ h => (nomatch h.1))
        (case hSd1_5 => assumption)
        (case hyd1_5 => (refine Or.inl ⟨by rfl, ?_⟩; intro W hW; skip; go_simp; try with_reducible rfl))
        (try simp only [List.getElem_toArray, List.getElem_cons_succ, List.getElem_cons_zero, Act.put, List.setIfInBounds_toArray, List.set_cons_zero, List.set_cons_succ])
        (refine wpAnyH_take (i := 6) (oi := ?oid1_6) (v := ?vd1_6) ?hid1_6 ?hsd1_6 ?hfd1_6 ?hrd1_6 ?hQd1_6 ?hyd1_6 ?hSd1_6 ?hd1_6)
        (case hid1_6 => rfl)
        (case hsd1_6 => kernel_rfl)
        (case hfd1_6 => kernel_rfl)
        (case hrd1_6 => kernel_rfl)
        (case hQd1_6 => first | exact fun _ _ _ h => h | exact fun _ _ _ h => (nomatch h.1))
        (case hSd1_6 => assumption)
        (case hyd1_6 => (refine Or.inl ⟨by rfl, ?_⟩; intro W hW; skip; go_simp; try with_reducible rfl))
        (try simp only [List.getElem_toArray, List.getElem_cons_succ, List.getElem_cons_zero, Act.put, List.setIfInBounds_toArray, List.set_cons_zero, List.set_cons_succ])
        refine wpAnyH_ready (rs := [7]) (by kernel_rfl) (by simp) ?_
        refine AllReadyH.cons rfl (fun K' hK => ?_) AllReadyH.nil
        go_simp
        refine hK.out _ _ (hHeld2.alloc hHeld2.size _) (fun hHeld3 => ?_)
        clear hK
        try simp only [List.getElem_toArray, List.getElem_cons_succ, List.getElem_cons_zero, Act.put, List.setIfInBounds_toArray, List.set_cons_zero, List.set_cons_succ]
        refine wpAnyH_ready (rs := [8]) (by kernel_rfl) (by simp) ?_
        refine AllReadyH.cons rfl (fun K' hK => ?_) AllReadyH.nil
        go_simp
        refine hK.out _ _ (hHeld2.alloc hHeld2.size _) (fun hHeld4 => ?_)
        clear hK
        try simp only [List.getElem_toArray, List.getElem_cons_succ, List.getElem_cons_zero, Act.put, List.setIfInBounds_toArray, List.set_cons_zero, List.set_cons_succ]
        (refine wpAnyH_take (i := 9) (oi := ?oid1_9) (v := ?vd1_9) ?hid1_9 ?hsd1_9 ?hfd1_9 ?hrd1_9 ?hQd1_9 ?hyd1_9 ?hSd1_9 ?hd1_9)
        (case hid1_9 => rfl)
        (case hsd1_9 => kernel_rfl)
        (case hfd1_9 => kernel_rfl)
        (case hrd1_9 => kernel_rfl)
        (case hQd1_9 => first | exact fun _ _ _ h => h | exact fun _ _ _ h => (nomatch h.1))
        (case hSd1_9 => assumption)
        (case hyd1_9 => (refine Or.inl ⟨by rfl, ?_⟩; intro W hW; skip; go_simp; try with_reducible rfl))
        (try simp only [List.getElem_toArray, List.getElem_cons_succ, List.getElem_cons_zero, Act.put, List.setIfInBounds_toArray, List.set_cons_zero, List.set_cons_succ])
        refine wpAnyH_done (by kernel_rfl) ?_ _
        obtain ⟨X, hX⟩ : ∃ X, w9.heap.size = X := ⟨_, rfl⟩
        have hXs : W3.heap.size ≤ w9.heap.size := hHeld2.size
        have hBX : (w9.alloc (.cells #[.int .i64 183, .int .i64 0, .int .i64 0] 96)).heap[X]? = some (.cells #[.int .i64 183, .int .i64 0, .int .i64 0] 96 (0, 0)) := by rw [← hX]; exact (MapKept.heap_alloc w9 _).1
        refine ⟨rfl, X, a8, ?_, hBX, by omega, hHeld4⟩
        rw [hX]
      · go_simp
        refine hK.out _ _ (hHeld1.alloc hHeld1.size _) (fun hHeld2 => ?_)
        clear hK
        try simp only [List.getElem_toArray, List.getElem_cons_succ, List.getElem_cons_zero, Act.put, List.setIfInBounds_toArray, List.set_cons_zero, List.set_cons_succ]
        have B8 : (w8.alloc (.cells #[.int .i64 0, .int .i64 0, .int .i64 0] 96)).heap[w8.heap.size]? = some (.cells #[.int .i64 0, .int .i64 0, .int .i64 0] 96 (0, 0)) := (MapKept.heap_alloc w8 _).1
        have hs8' := hs8.alloc (.cells #[.int .i64 0, .int .i64 0, .int .i64 0] 96)
        have hXs : W3.heap.size ≤ w8.heap.size := hHeld1.size
        generalize w8.alloc (.cells #[.int .i64 0, .int .i64 0, .int .i64 0] 96) = w7 at B8 hs8' hHeld2 ⊢
        generalize w8.heap.size = X at B8 hXs ⊢
        refine wpAnyH_ready (rs := [3]) (by kernel_rfl) (by simp) ?_
        refine AllReadyH.cons rfl (fun K' hK => ?_) AllReadyH.nil
        go_simp
        refine (HOd.out _ _ _ hs8').mono ?_
        rintro e9 w9 ⟨rfl, hb9⟩
        refine hK.out _ _ (Below.then hHeld2 hb9 hHeld2.size) (fun hHeld4 => ?_)
        clear hK
        try simp only [List.getElem_toArray, List.getElem_cons_succ, List.getElem_cons_zero, Act.put, List.setIfInBounds_toArray, List.set_cons_zero, List.set_cons_succ]
        have B9 := blk_below B8 hb9
        have x0 : w9.cell? ⟨X, 0, none⟩ = some (.int .i64 0) := blk_cell B9 0 _ rfl
        have y0 := blk_fz B9 0
        have x1 : w9.cell? ⟨X, 1, none⟩ = some (.int .i64 0) := blk_cell B9 1 _ rfl
        have y1 := blk_fz B9 1
        have x2 : w9.cell? ⟨X, 2, none⟩ = some (.int .i64 0) := blk_cell B9 2 _ rfl
        have y2 := blk_fz B9 2
        (refine wpAnyH_take (i := 4) (oi := ?oid2_4) (v := ?vd2_4) ?hid2_4 ?hsd2_4 ?hfd2_4 ?hrd2_4 ?hQd2_4 ?hyd2_4 ?hSd2_4 ?hd2_4)
        (case hid2_4 => rfl)
        (case hsd2_4 => kernel_rfl)
        (case hfd2_4 => kernel_rfl)
        (case hrd2_4 => kernel_rfl)
        (case hQd2_4 => first | exact fun _ _ _ h => h | exact fun _ _ _ h => (nomatch h.1))
        (case hSd2_4 => assumption)
        (case hyd2_4 => (refine Or.inl ⟨by rfl, ?_⟩; intro W hW; skip; go_simp; try with_reducible rfl))
        (try simp only [List.getElem_toArray, List.getElem_cons_succ, List.getElem_cons_zero, Act.put, List.setIfInBounds_toArray, List.set_cons_zero, List.set_cons_succ])
        (refine wpAnyH_take (i := 5) (oi := ?oid2_5) (v := ?vd2_5) ?hid2_5 ?hsd2_5 ?hfd2_5 ?hrd2_5 ?hQd2_5 ?hyd2_5 ?hSd2_5 ?hd2_5)
        (case hid2_5 => rfl)
        (case hsd2_5 => kernel_rfl)
        (case hfd2_5 => kernel_rfl)
        (case hrd2_5 => kernel_rfl)
        (case hQd2_5 => first | exact fun _ _ _ h => h | exact fun _ _ _ h => (nomatch h.1))
        (case hSd2_5 => assumption)
        (case hyd2_5 => (refine Or.inl ⟨by rfl, ?_⟩; intro W hW; skip; go_simp; try with_reducible rfl))
        (try simp only [List.getElem_toArray, List.getElem_cons_succ, List.getElem_cons_zero, Act.put, List.setIfInBounds_toArray, List.set_cons_zero, List.set_cons_succ])
        (refine wpAnyH_take (i := 6) (oi := ?oid2_6) (v := ?vd2_6) ?hid2_6 ?hsd2_6 ?hfd2_6 ?hrd2_6 ?hQd2_6 ?hyd2_6 ?hSd2_6 ?hd2_6)
        (case hid2_6 => rfl)
        (case hsd2_6 => kernel_rfl)
        (case hfd2_6 => kernel_rfl)
        (case hrd2_6 => kernel_rfl)
        (case hQd2_6 => first | exact fun _ _ _ h => h | exact fun _ _ _ h => (nomatch h.1))
        (case hSd2_6 => assumption)
        (case hyd2_6 => (refine Or.inl ⟨by rfl, ?_⟩; intro W hW; skip; go_simp; try with_reducible rfl))
        (try simp only [List.getElem_toArray, List.getElem_cons_succ, List.getElem_cons_zero, Act.put, List.setIfInBounds_toArray, List.set_cons_zero, List.set_cons_succ])
        refine wpAnyH_ready (rs := [8]) (by kernel_rfl) (by simp) ?_
        refine AllReadyH.cons rfl (fun K' hK => ?_) AllReadyH.nil
        go_simp
        refine hK.out _ _ (((hHeld4.setCell (p := ⟨X, 0, none⟩) hXs _).setCell (p := ⟨X, 1, none⟩) hXs _).setCell (p := ⟨X, 2, none⟩) hXs _) (fun hHeld5 => ?_)
        clear hK
        try simp only [List.getElem_toArray, List.getElem_cons_succ, List.getElem_cons_zero, Act.put, List.setIfInBounds_toArray, List.set_cons_zero, List.set_cons_succ]
        (refine wpAnyH_take (i := 9) (oi := ?oid2_9) (v := ?vd2_9) ?hid2_9 ?hsd2_9 ?hfd2_9 ?hrd2_9 ?hQd2_9 ?hyd2_9 ?hSd2_9 ?hd2_9)
        (case hid2_9 => rfl)
        (case hsd2_9 => kernel_rfl)
        (case hfd2_9 => kernel_rfl)
        (case hrd2_9 => kernel_rfl)
        (case hQd2_9 => first | exact fun _ _ _ h => h | exact fun _ _ _ h => (nomatch h.1))
        (case hSd2_9 => assumption)
        (case hyd2_9 => (refine Or.inl ⟨by rfl, ?_⟩; intro W hW; skip; go_simp; try with_reducible rfl))
        (try simp only [List.getElem_toArray, List.getElem_cons_succ, List.getElem_cons_zero, Act.put, List.setIfInBounds_toArray, List.set_cons_zero, List.set_cons_succ])
        refine wpAnyH_done (by kernel_rfl) ?_ _
        have hBX := blk_set (blk_set (blk_set B9 0 (.int .i64 183)) 1 (.int .i64 0)) 2 (.int .i64 0)
        refine ⟨rfl, X, a8, ?_, hBX, hXs, hHeld5⟩
        rfl
    · go_simp
      refine hK.out _ _ (hHeld.alloc (Nat.le_refl _) _) (fun hHeld1 => ?_)
      clear hK
      try simp only [List.getElem_toArray, List.getElem_cons_succ, List.getElem_cons_zero, Act.put, List.setIfInBounds_toArray, List.set_cons_zero, List.set_cons_succ]
      have B7 : (W3.alloc (.cells #[.int .i64 0, .int .i64 0, .int .i64 0] 96)).drew.heap[W3.heap.size]? = some (.cells #[.int .i64 0, .int .i64 0, .int .i64 0] 96 (0, 0)) := blk_drew (MapKept.heap_alloc W3 _).1
      have hXs : W3.heap.size ≤ W3.heap.size := Nat.le_refl _
      generalize (W3.alloc (.cells #[.int .i64 0, .int .i64 0, .int .i64 0] 96)).drew = w7 at B7 hHeld1 ⊢
      refine wpAnyH_ready (rs := [0]) (by kernel_rfl) (by simp) ?_
      refine AllReadyH.cons rfl (fun K' hK => ?_) AllReadyH.nil
      go_simp
      refine (HP.out _).mono ?_
      rintro e8 w8 ⟨⟨a8, rfl, hs8⟩, hb8⟩
      refine hK.out _ _ (Below.then hHeld1 hb8 hHeld1.size) (fun hHeld2 => ?_)
      clear hK
      try simp only [List.getElem_toArray, List.getElem_cons_succ, List.getElem_cons_zero, Act.put, List.setIfInBounds_toArray, List.set_cons_zero, List.set_cons_succ]
      have B8 := blk_below B7 hb8
      refine wpAnyH_ready (rs := [3]) (by kernel_rfl) (by simp) ?_
      refine AllReadyH.cons rfl (fun K' hK => ?_) AllReadyH.nil
      go_simp
      refine (HOd.out _ _ _ hs8).mono ?_
      rintro e9 w9 ⟨rfl, hb9⟩
      refine hK.out _ _ (Below.then hHeld2 hb9 hHeld2.size) (fun hHeld4 => ?_)
      clear hK
      try simp only [List.getElem_toArray, List.getElem_cons_succ, List.getElem_cons_zero, Act.put, List.setIfInBounds_toArray, List.set_cons_zero, List.set_cons_succ]
      have B9 := blk_below B8 hb9
      have x0 : w9.cell? ⟨W3.heap.size, 0, none⟩ = some (.int .i64 0) := blk_cell B9 0 _ rfl
      have y0 := blk_fz B9 0
      have x1 : w9.cell? ⟨W3.heap.size, 1, none⟩ = some (.int .i64 0) := blk_cell B9 1 _ rfl
      have y1 := blk_fz B9 1
      have x2 : w9.cell? ⟨W3.heap.size, 2, none⟩ = some (.int .i64 0) := blk_cell B9 2 _ rfl
      have y2 := blk_fz B9 2
      (refine wpAnyH_take (i := 4) (oi := ?oid3_4) (v := ?vd3_4) ?hid3_4 ?hsd3_4 ?hfd3_4 ?hrd3_4 ?hQd3_4 ?hyd3_4 ?hSd3_4 ?hd3_4)
      (case hid3_4 => rfl)
      (case hsd3_4 => kernel_rfl)
      (case hfd3_4 => kernel_rfl)
      (case hrd3_4 => kernel_rfl)
      (case hQd3_4 => first | exact fun _ _ _ h => h | exact fun _ _ _ h => (nomatch h.1))
      (case hSd3_4 => assumption)
      (case hyd3_4 => (refine Or.inl ⟨by rfl, ?_⟩; intro W hW; skip; go_simp; try with_reducible rfl))
      (try simp only [List.getElem_toArray, List.getElem_cons_succ, List.getElem_cons_zero, Act.put, List.setIfInBounds_toArray, List.set_cons_zero, List.set_cons_succ])
      (refine wpAnyH_take (i := 5) (oi := ?oid3_5) (v := ?vd3_5) ?hid3_5 ?hsd3_5 ?hfd3_5 ?hrd3_5 ?hQd3_5 ?hyd3_5 ?hSd3_5 ?hd3_5)
      (case hid3_5 => rfl)
      (case hsd3_5 => kernel_rfl)
      (case hfd3_5 => kernel_rfl)
      (case hrd3_5 => kernel_rfl)
      (case hQd3_5 => first | exact fun _ _ _ h => h | exact fun _ _ _ h => (nomatch h.1))
      (case hSd3_5 => assumption)
      (case hyd3_5 => (refine Or.inl ⟨by rfl, ?_⟩; intro W hW; skip; go_simp; try with_reducible rfl))
      (try simp only [List.getElem_toArray, List.getElem_cons_succ, List.getElem_cons_zero, Act.put, List.setIfInBounds_toArray, List.set_cons_zero, List.set_cons_succ])
      (refine wpAnyH_take (i := 6) (oi := ?oid3_6) (v := ?vd3_6) ?hid3_6 ?hsd3_6 ?hfd3_6 ?hrd3_6 ?hQd3_6 ?hyd3_6 ?hSd3_6 ?hd3_6)
      (case hid3_6 => rfl)
      (case hsd3_6 => kernel_rfl)
      (case hfd3_6 => kernel_rfl)
      (case hrd3_6 => kernel_rfl)
      (case hQd3_6 => first | exact fun _ _ _ h => h | exact fun _ _ _ h => (nomatch h.1))
      (case hSd3_6 => assumption)
      (case hyd3_6 => (refine Or.inl ⟨by rfl, ?_⟩; intro W hW; skip; go_simp; try with_reducible rfl))
      (try simp only [List.getElem_toArray, List.getElem_cons_succ, List.getElem_cons_zero, Act.put, List.setIfInBounds_toArray, List.set_cons_zero, List.set_cons_succ])
      refine wpAnyH_ready (rs := [8]) (by kernel_rfl) (by simp) ?_
      refine AllReadyH.cons rfl (fun K' hK => ?_) AllReadyH.nil
      go_simp
      refine hK.out _ _ (((hHeld4.setCell (p := ⟨W3.heap.size, 0, none⟩) hXs _).setCell (p := ⟨W3.heap.size, 1, none⟩) hXs _).setCell (p := ⟨W3.heap.size, 2, none⟩) hXs _) (fun hHeld5 => ?_)
      clear hK
      try simp only [List.getElem_toArray, List.getElem_cons_succ, List.getElem_cons_zero, Act.put, List.setIfInBounds_toArray, List.set_cons_zero, List.set_cons_succ]
      (refine wpAnyH_take (i := 9) (oi := ?oid3_9) (v := ?vd3_9) ?hid3_9 ?hsd3_9 ?hfd3_9 ?hrd3_9 ?hQd3_9 ?hyd3_9 ?hSd3_9 ?hd3_9)
      (case hid3_9 => rfl)
      (case hsd3_9 => kernel_rfl)
      (case hfd3_9 => kernel_rfl)
      (case hrd3_9 => kernel_rfl)
      (case hQd3_9 => first | exact fun _ _ _ h => h | exact fun _ _ _ h => (nomatch h.1))
      (case hSd3_9 => assumption)
      (case hyd3_9 => (refine Or.inl ⟨by rfl, ?_⟩; intro W hW; skip; go_simp; try with_reducible rfl))
      (try simp only [List.getElem_toArray, List.getElem_cons_succ, List.getElem_cons_zero, Act.put, List.setIfInBounds_toArray, List.set_cons_zero, List.set_cons_succ])
      refine wpAnyH_done (by kernel_rfl) ?_ _
      have hBX := blk_set (blk_set (blk_set B9 0 (.int .i64 183)) 1 (.int .i64 0)) 2 (.int .i64 0)
      refine ⟨rfl, W3.heap.size, a8, ?_, hBX, hXs, hHeld5⟩
      rfl
  case impd =>
  rintro e ac W4 ⟨rfl, Xd, A8d, rfl, Bd, hXd, hBl4⟩
  have T4 := blk_below T3 hBl4
  have hb4 := Below.then hb3 hBl4 hb3.size
  clear t0 t1 t2 t3 t4 t5 t6 t7 t8 t9 t10 t11 t12
  replace Ba := blk_below Ba hBl4
  replace Bb := blk_below Bb hBl4
  replace Bc := blk_below Bc hBl4
  go_wp2_with fail
  have lT4 := blk_lt T4
  have t0 : W4.cell? ⟨TB, 0, none⟩ = some (.int .i64 0) := blk_cell T4 0 _ rfl
  have t1 : W4.cell? ⟨TB, 1, none⟩ = some (.int .i64 0) := blk_cell T4 1 _ rfl
  have t2 : W4.cell? ⟨TB, 2, none⟩ = some (.int .i64 0) := blk_cell T4 2 _ rfl
  have t3 : W4.cell? ⟨TB, 3, none⟩ = some (.int .i64 0) := blk_cell T4 3 _ rfl
  have t4 : W4.cell? ⟨TB, 4, none⟩ = some (.int .i64 0) := blk_cell T4 4 _ rfl
  have t5 : W4.cell? ⟨TB, 5, none⟩ = some (.int .i64 0) := blk_cell T4 5 _ rfl
  have t6 : W4.cell? ⟨TB, 6, none⟩ = some (.int .i64 0) := blk_cell T4 6 _ rfl
  have t7 : W4.cell? ⟨TB, 7, none⟩ = some (.int .u64 40) := blk_cell T4 7 _ rfl
  have t8 : W4.cell? ⟨TB, 8, none⟩ = some (.int .u64 0) := blk_cell T4 8 _ rfl
  have t9 : W4.cell? ⟨TB, 9, none⟩ = some (.int .u64 0) := blk_cell T4 9 _ rfl
  have t10 : W4.cell? ⟨TB, 10, none⟩ = some (.int .u64 0) := blk_cell T4 10 _ rfl
  have t11 : W4.cell? ⟨TB, 11, none⟩ = some (.int .u64 0) := blk_cell T4 11 _ rfl
  have t12 : W4.cell? ⟨TB, 12, none⟩ = some (.int .u64 0) := blk_cell T4 12 _ rfl
  refine Code.wp_mono (Q := fun e a W => e = Exit.normal ∧ ∃ (X : Nat) (A8 : Option Addr), a = (?frameOff : Nat → Option Addr → Act) X A8 ∧ (W.heap[X]? = some (.cells #[.int .i64 181, .int .i64 0, .int .i64 0] 96 (0, 0)) ∧ W4.heap.size ≤ X ∧ Below W4.heap.size W4 W)) ?impf ?regf
  case regf =>
    refine wp_region_held_drew (S := fun A => Below W4.heap.size W4 A) (by kernel_rfl) (Below.refl _ _).drew (fun hHeld => ?_)
    (refine wpAnyH_take (i := 1) (oi := ?oif0_1) (v := ?vf0_1) ?hif0_1 ?hsf0_1 ?hff0_1 ?hrf0_1 ?hQf0_1 ?hyf0_1 ?hSf0_1 ?hf0_1)
    (case hif0_1 => rfl)
    (case hsf0_1 => kernel_rfl)
    (case hff0_1 => kernel_rfl)
    (case hrf0_1 => kernel_rfl)
    (case hQf0_1 => first | exact fun _ _ _ h => h | exact fun _ _ _ h => (nomatch h.1))
    (case hSf0_1 => assumption)
    (case hyf0_1 => (refine Or.inl ⟨by rfl, ?_⟩; intro W hW; (have k0 := (hW.cell (p := ⟨TB, 0, none⟩) lT4).trans t0; have k1 := (hW.cell (p := ⟨TB, 1, none⟩) lT4).trans t1; have k2 := (hW.cell (p := ⟨TB, 2, none⟩) lT4).trans t2; have k3 := (hW.cell (p := ⟨TB, 3, none⟩) lT4).trans t3; have k4 := (hW.cell (p := ⟨TB, 4, none⟩) lT4).trans t4; have k5 := (hW.cell (p := ⟨TB, 5, none⟩) lT4).trans t5; have k6 := (hW.cell (p := ⟨TB, 6, none⟩) lT4).trans t6; have k7 := (hW.cell (p := ⟨TB, 7, none⟩) lT4).trans t7; have k8 := (hW.cell (p := ⟨TB, 8, none⟩) lT4).trans t8; have k9 := (hW.cell (p := ⟨TB, 9, none⟩) lT4).trans t9; have k10 := (hW.cell (p := ⟨TB, 10, none⟩) lT4).trans t10; have k11 := (hW.cell (p := ⟨TB, 11, none⟩) lT4).trans t11; have k12 := (hW.cell (p := ⟨TB, 12, none⟩) lT4).trans t12); go_simp; try with_reducible rfl))
    (try simp only [List.getElem_toArray, List.getElem_cons_succ, List.getElem_cons_zero, Act.put, List.setIfInBounds_toArray, List.set_cons_zero, List.set_cons_succ])
    (refine wpAnyH_take (i := 2) (oi := ?oif0_2) (v := ?vf0_2) ?hif0_2 ?hsf0_2 ?hff0_2 ?hrf0_2 ?hQf0_2 ?hyf0_2 ?hSf0_2 ?hf0_2)
    (case hif0_2 => rfl)
    (case hsf0_2 => kernel_rfl)
    (case hff0_2 => kernel_rfl)
    (case hrf0_2 => kernel_rfl)
    (case hQf0_2 => first | exact fun _ _ _ h => h | exact fun _ _ _ h => (nomatch h.1))
    (case hSf0_2 => assumption)
    (case hyf0_2 => (refine Or.inl ⟨by rfl, ?_⟩; intro W hW; skip; go_simp; try with_reducible rfl))
    (try simp only [List.getElem_toArray, List.getElem_cons_succ, List.getElem_cons_zero, Act.put, List.setIfInBounds_toArray, List.set_cons_zero, List.set_cons_succ])
    refine wpAnyH_ready (rs := [0, 7]) (by kernel_rfl) (by simp) ?_
    refine AllReadyH.cons rfl (fun K' hK => ?_) (AllReadyH.cons rfl (fun K' hK => ?_) AllReadyH.nil)
    · go_simp
      refine (HP.out _).mono ?_
      rintro e8 w8 ⟨⟨a8, rfl, hs8⟩, hb8⟩
      refine hK.out _ _ (Below.then hHeld hb8 hHeld.size) (fun hHeld1 => ?_)
      clear hK
      try simp only [List.getElem_toArray, List.getElem_cons_succ, List.getElem_cons_zero, Act.put, List.setIfInBounds_toArray, List.set_cons_zero, List.set_cons_succ]
      refine wpAnyH_ready (rs := [3, 7]) (by kernel_rfl) (by simp) ?_
      refine AllReadyH.cons rfl (fun K' hK => ?_) (AllReadyH.cons rfl (fun K' hK => ?_) AllReadyH.nil)
      · go_simp
        refine (HOf.out _ _ _ hs8).mono ?_
        rintro e9 w9 ⟨rfl, hb9⟩
        refine hK.out _ _ (Below.then hHeld1 hb9 hHeld1.size) (fun hHeld2 => ?_)
        clear hK
        try simp only [List.getElem_toArray, List.getElem_cons_succ, List.getElem_cons_zero, Act.put, List.setIfInBounds_toArray, List.set_cons_zero, List.set_cons_succ]
        (refine wpAnyH_take (i := 4) (oi := ?oif1_4) (v := ?vf1_4) ?hif1_4 ?hsf1_4 ?hff1_4 ?hrf1_4 ?hQf1_4 ?hyf1_4 ?hSf1_4 ?hf1_4)
        (case hif1_4 => rfl)
        (case hsf1_4 => kernel_rfl)
        (case hff1_4 => kernel_rfl)
        (case hrf1_4 => kernel_rfl)
        (case hQf1_4 => first | exact fun _ _ _ h => h | exact fun _ _ _ h => (nomatch h.1))
        (case hSf1_4 => assumption)
        (case hyf1_4 => (refine Or.inl ⟨by rfl, ?_⟩; intro W hW; skip; go_simp; try with_reducible rfl))
        (try simp only [List.getElem_toArray, List.getElem_cons_succ, List.getElem_cons_zero, Act.put, List.setIfInBounds_toArray, List.set_cons_zero, List.set_cons_succ])
        (refine wpAnyH_take (i := 5) (oi := ?oif1_5) (v := ?vf1_5) ?hif1_5 ?hsf1_5 ?hff1_5 ?hrf1_5 ?hQf1_5 ?hyf1_5 ?hSf1_5 ?hf1_5)
        (case hif1_5 => rfl)
        (case hsf1_5 => kernel_rfl)
        (case hff1_5 => kernel_rfl)
        (case hrf1_5 => kernel_rfl)
        (case hQf1_5 => first | exact fun _ _ _ h => h | exact fun _ _ _ h => (nomatch h.1))
        (case hSf1_5 => assumption)
        (case hyf1_5 => (refine Or.inl ⟨by rfl, ?_⟩; intro W hW; skip; go_simp; try with_reducible rfl))
        (try simp only [List.getElem_toArray, List.getElem_cons_succ, List.getElem_cons_zero, Act.put, List.setIfInBounds_toArray, List.set_cons_zero, List.set_cons_succ])
        (refine wpAnyH_take (i := 6) (oi := ?oif1_6) (v := ?vf1_6) ?hif1_6 ?hsf1_6 ?hff1_6 ?hrf1_6 ?hQf1_6 ?hyf1_6 ?hSf1_6 ?hf1_6)
        (case hif1_6 => rfl)
        (case hsf1_6 => kernel_rfl)
        (case hff1_6 => kernel_rfl)
        (case hrf1_6 => kernel_rfl)
        (case hQf1_6 => first | exact fun _ _ _ h => h | exact fun _ _ _ h => (nomatch h.1))
        (case hSf1_6 => assumption)
        (case hyf1_6 => (refine Or.inl ⟨by rfl, ?_⟩; intro W hW; skip; go_simp; try with_reducible rfl))
        (try simp only [List.getElem_toArray, List.getElem_cons_succ, List.getElem_cons_zero, Act.put, List.setIfInBounds_toArray, List.set_cons_zero, List.set_cons_succ])
        refine wpAnyH_ready (rs := [7]) (by kernel_rfl) (by simp) ?_
        refine AllReadyH.cons rfl (fun K' hK => ?_) AllReadyH.nil
        go_simp
        refine hK.out _ _ (hHeld2.alloc hHeld2.size _) (fun hHeld3 => ?_)
        clear hK
        try simp only [List.getElem_toArray, List.getElem_cons_succ, List.getElem_cons_zero, Act.put, List.setIfInBounds_toArray, List.set_cons_zero, List.set_cons_succ]
        refine wpAnyH_ready (rs := [8]) (by kernel_rfl) (by simp) ?_
        refine AllReadyH.cons rfl (fun K' hK => ?_) AllReadyH.nil
        go_simp
        refine hK.out _ _ (hHeld2.alloc hHeld2.size _) (fun hHeld4 => ?_)
        clear hK
        try simp only [List.getElem_toArray, List.getElem_cons_succ, List.getElem_cons_zero, Act.put, List.setIfInBounds_toArray, List.set_cons_zero, List.set_cons_succ]
        (refine wpAnyH_take (i := 9) (oi := ?oif1_9) (v := ?vf1_9) ?hif1_9 ?hsf1_9 ?hff1_9 ?hrf1_9 ?hQf1_9 ?hyf1_9 ?hSf1_9 ?hf1_9)
        (case hif1_9 => rfl)
        (case hsf1_9 => kernel_rfl)
        (case hff1_9 => kernel_rfl)
        (case hrf1_9 => kernel_rfl)
        (case hQf1_9 => first | exact fun _ _ _ h => h | exact fun _ _ _ h => (nomatch h.1))
        (case hSf1_9 => assumption)
        (case hyf1_9 => (refine Or.inl ⟨by rfl, ?_⟩; intro W hW; skip; go_simp; try with_reducible rfl))
        (try simp only [List.getElem_toArray, List.getElem_cons_succ, List.getElem_cons_zero, Act.put, List.setIfInBounds_toArray, List.set_cons_zero, List.set_cons_succ])
        refine wpAnyH_done (by kernel_rfl) ?_ _
        obtain ⟨X, hX⟩ : ∃ X, w9.heap.size = X := ⟨_, rfl⟩
        have hXs : W4.heap.size ≤ w9.heap.size := hHeld2.size
        have hBX : (w9.alloc (.cells #[.int .i64 181, .int .i64 0, .int .i64 0] 96)).heap[X]? = some (.cells #[.int .i64 181, .int .i64 0, .int .i64 0] 96 (0, 0)) := by rw [← hX]; exact (MapKept.heap_alloc w9 _).1
        refine ⟨rfl, X, a8, ?_, hBX, by omega, hHeld4⟩
        rw [hX]
      · go_simp
        refine hK.out _ _ (hHeld1.alloc hHeld1.size _) (fun hHeld2 => ?_)
        clear hK
        try simp only [List.getElem_toArray, List.getElem_cons_succ, List.getElem_cons_zero, Act.put, List.setIfInBounds_toArray, List.set_cons_zero, List.set_cons_succ]
        have B8 : (w8.alloc (.cells #[.int .i64 0, .int .i64 0, .int .i64 0] 96)).heap[w8.heap.size]? = some (.cells #[.int .i64 0, .int .i64 0, .int .i64 0] 96 (0, 0)) := (MapKept.heap_alloc w8 _).1
        have hs8' := hs8.alloc (.cells #[.int .i64 0, .int .i64 0, .int .i64 0] 96)
        have hXs : W4.heap.size ≤ w8.heap.size := hHeld1.size
        generalize w8.alloc (.cells #[.int .i64 0, .int .i64 0, .int .i64 0] 96) = w7 at B8 hs8' hHeld2 ⊢
        generalize w8.heap.size = X at B8 hXs ⊢
        refine wpAnyH_ready (rs := [3]) (by kernel_rfl) (by simp) ?_
        refine AllReadyH.cons rfl (fun K' hK => ?_) AllReadyH.nil
        go_simp
        refine (HOf.out _ _ _ hs8').mono ?_
        rintro e9 w9 ⟨rfl, hb9⟩
        refine hK.out _ _ (Below.then hHeld2 hb9 hHeld2.size) (fun hHeld4 => ?_)
        clear hK
        try simp only [List.getElem_toArray, List.getElem_cons_succ, List.getElem_cons_zero, Act.put, List.setIfInBounds_toArray, List.set_cons_zero, List.set_cons_succ]
        have B9 := blk_below B8 hb9
        have x0 : w9.cell? ⟨X, 0, none⟩ = some (.int .i64 0) := blk_cell B9 0 _ rfl
        have y0 := blk_fz B9 0
        have x1 : w9.cell? ⟨X, 1, none⟩ = some (.int .i64 0) := blk_cell B9 1 _ rfl
        have y1 := blk_fz B9 1
        have x2 : w9.cell? ⟨X, 2, none⟩ = some (.int .i64 0) := blk_cell B9 2 _ rfl
        have y2 := blk_fz B9 2
        (refine wpAnyH_take (i := 4) (oi := ?oif2_4) (v := ?vf2_4) ?hif2_4 ?hsf2_4 ?hff2_4 ?hrf2_4 ?hQf2_4 ?hyf2_4 ?hSf2_4 ?hf2_4)
        (case hif2_4 => rfl)
        (case hsf2_4 => kernel_rfl)
        (case hff2_4 => kernel_rfl)
        (case hrf2_4 => kernel_rfl)
        (case hQf2_4 => first | exact fun _ _ _ h => h | exact fun _ _ _ h => (nomatch h.1))
        (case hSf2_4 => assumption)
        (case hyf2_4 => (refine Or.inl ⟨by rfl, ?_⟩; intro W hW; skip; go_simp; try with_reducible rfl))
        (try simp only [List.getElem_toArray, List.getElem_cons_succ, List.getElem_cons_zero, Act.put, List.setIfInBounds_toArray, List.set_cons_zero, List.set_cons_succ])
        (refine wpAnyH_take (i := 5) (oi := ?oif2_5) (v := ?vf2_5) ?hif2_5 ?hsf2_5 ?hff2_5 ?hrf2_5 ?hQf2_5 ?hyf2_5 ?hSf2_5 ?hf2_5)
        (case hif2_5 => rfl)
        (case hsf2_5 => kernel_rfl)
        (case hff2_5 => kernel_rfl)
        (case hrf2_5 => kernel_rfl)
        (case hQf2_5 => first | exact fun _ _ _ h => h | exact fun _ _ _ h => (nomatch h.1))
        (case hSf2_5 => assumption)
        (case hyf2_5 => (refine Or.inl ⟨by rfl, ?_⟩; intro W hW; skip; go_simp; try with_reducible rfl))
        (try simp only [List.getElem_toArray, List.getElem_cons_succ, List.getElem_cons_zero, Act.put, List.setIfInBounds_toArray, List.set_cons_zero, List.set_cons_succ])
        (refine wpAnyH_take (i := 6) (oi := ?oif2_6) (v := ?vf2_6) ?hif2_6 ?hsf2_6 ?hff2_6 ?hrf2_6 ?hQf2_6 ?hyf2_6 ?hSf2_6 ?hf2_6)
        (case hif2_6 => rfl)
        (case hsf2_6 => kernel_rfl)
        (case hff2_6 => kernel_rfl)
        (case hrf2_6 => kernel_rfl)
        (case hQf2_6 => first | exact fun _ _ _ h => h | exact fun _ _ _ h => (nomatch h.1))
        (case hSf2_6 => assumption)
        (case hyf2_6 => (refine Or.inl ⟨by rfl, ?_⟩; intro W hW; skip; go_simp; try with_reducible rfl))
        (try simp only [List.getElem_toArray, List.getElem_cons_succ, List.getElem_cons_zero, Act.put, List.setIfInBounds_toArray, List.set_cons_zero, List.set_cons_succ])
        refine wpAnyH_ready (rs := [8]) (by kernel_rfl) (by simp) ?_
        refine AllReadyH.cons rfl (fun K' hK => ?_) AllReadyH.nil
        go_simp
        refine hK.out _ _ (((hHeld4.setCell (p := ⟨X, 0, none⟩) hXs _).setCell (p := ⟨X, 1, none⟩) hXs _).setCell (p := ⟨X, 2, none⟩) hXs _) (fun hHeld5 => ?_)
        clear hK
        try simp only [List.getElem_toArray, List.getElem_cons_succ, List.getElem_cons_zero, Act.put, List.setIfInBounds_toArray, List.set_cons_zero, List.set_cons_succ]
        (refine wpAnyH_take (i := 9) (oi := ?oif2_9) (v := ?vf2_9) ?hif2_9 ?hsf2_9 ?hff2_9 ?hrf2_9 ?hQf2_9 ?hyf2_9 ?hSf2_9 ?hf2_9)
        (case hif2_9 => rfl)
        (case hsf2_9 => kernel_rfl)
        (case hff2_9 => kernel_rfl)
        (case hrf2_9 => kernel_rfl)
        (case hQf2_9 => first | exact fun _ _ _ h => h | exact fun _ _ _ h => (nomatch h.1))
        (case hSf2_9 => assumption)
        (case hyf2_9 => (refine Or.inl ⟨by rfl, ?_⟩; intro W hW; skip; go_simp; try with_reducible rfl))
        (try simp only [List.getElem_toArray, List.getElem_cons_succ, List.getElem_cons_zero, Act.put, List.setIfInBounds_toArray, List.set_cons_zero, List.set_cons_succ])
        refine wpAnyH_done (by kernel_rfl) ?_ _
        have hBX := blk_set (blk_set (blk_set B9 0 (.int .i64 181)) 1 (.int .i64 0)) 2 (.int .i64 0)
        refine ⟨rfl, X, a8, ?_, hBX, hXs, hHeld5⟩
        rfl
    · go_simp
      refine hK.out _ _ (hHeld.alloc (Nat.le_refl _) _) (fun hHeld1 => ?_)
      clear hK
      try simp only [List.getElem_toArray, List.getElem_cons_succ, List.getElem_cons_zero, Act.put, List.setIfInBounds_toArray, List.set_cons_zero, List.set_cons_succ]
      have B7 : (W4.alloc (.cells #[.int .i64 0, .int .i64 0, .int .i64 0] 96)).drew.heap[W4.heap.size]? = some (.cells #[.int .i64 0, .int .i64 0, .int .i64 0] 96 (0, 0)) := blk_drew (MapKept.heap_alloc W4 _).1
      have hXs : W4.heap.size ≤ W4.heap.size := Nat.le_refl _
      generalize (W4.alloc (.cells #[.int .i64 0, .int .i64 0, .int .i64 0] 96)).drew = w7 at B7 hHeld1 ⊢
      refine wpAnyH_ready (rs := [0]) (by kernel_rfl) (by simp) ?_
      refine AllReadyH.cons rfl (fun K' hK => ?_) AllReadyH.nil
      go_simp
      refine (HP.out _).mono ?_
      rintro e8 w8 ⟨⟨a8, rfl, hs8⟩, hb8⟩
      refine hK.out _ _ (Below.then hHeld1 hb8 hHeld1.size) (fun hHeld2 => ?_)
      clear hK
      try simp only [List.getElem_toArray, List.getElem_cons_succ, List.getElem_cons_zero, Act.put, List.setIfInBounds_toArray, List.set_cons_zero, List.set_cons_succ]
      have B8 := blk_below B7 hb8
      refine wpAnyH_ready (rs := [3]) (by kernel_rfl) (by simp) ?_
      refine AllReadyH.cons rfl (fun K' hK => ?_) AllReadyH.nil
      go_simp
      refine (HOf.out _ _ _ hs8).mono ?_
      rintro e9 w9 ⟨rfl, hb9⟩
      refine hK.out _ _ (Below.then hHeld2 hb9 hHeld2.size) (fun hHeld4 => ?_)
      clear hK
      try simp only [List.getElem_toArray, List.getElem_cons_succ, List.getElem_cons_zero, Act.put, List.setIfInBounds_toArray, List.set_cons_zero, List.set_cons_succ]
      have B9 := blk_below B8 hb9
      have x0 : w9.cell? ⟨W4.heap.size, 0, none⟩ = some (.int .i64 0) := blk_cell B9 0 _ rfl
      have y0 := blk_fz B9 0
      have x1 : w9.cell? ⟨W4.heap.size, 1, none⟩ = some (.int .i64 0) := blk_cell B9 1 _ rfl
      have y1 := blk_fz B9 1
      have x2 : w9.cell? ⟨W4.heap.size, 2, none⟩ = some (.int .i64 0) := blk_cell B9 2 _ rfl
      have y2 := blk_fz B9 2
      (refine wpAnyH_take (i := 4) (oi := ?oif3_4) (v := ?vf3_4) ?hif3_4 ?hsf3_4 ?hff3_4 ?hrf3_4 ?hQf3_4 ?hyf3_4 ?hSf3_4 ?hf3_4)
      (case hif3_4 => rfl)
      (case hsf3_4 => kernel_rfl)
      (case hff3_4 => kernel_rfl)
      (case hrf3_4 => kernel_rfl)
      (case hQf3_4 => first | exact fun _ _ _ h => h | exact fun _ _ _ h => (nomatch h.1))
      (case hSf3_4 => assumption)
      (case hyf3_4 => (refine Or.inl ⟨by rfl, ?_⟩; intro W hW; skip; go_simp; try with_reducible rfl))
      (try simp only [List.getElem_toArray, List.getElem_cons_succ, List.getElem_cons_zero, Act.put, List.setIfInBounds_toArray, List.set_cons_zero, List.set_cons_succ])
      (refine wpAnyH_take (i := 5) (oi := ?oif3_5) (v := ?vf3_5) ?hif3_5 ?hsf3_5 ?hff3_5 ?hrf3_5 ?hQf3_5 ?hyf3_5 ?hSf3_5 ?hf3_5)
      (case hif3_5 => rfl)
      (case hsf3_5 => kernel_rfl)
      (case hff3_5 => kernel_rfl)
      (case hrf3_5 => kernel_rfl)
      (case hQf3_5 => first | exact fun _ _ _ h => h | exact fun _ _ _ h => (nomatch h.1))
      (case hSf3_5 => assumption)
      (case hyf3_5 => (refine Or.inl ⟨by rfl, ?_⟩; intro W hW; skip; go_simp; try with_reducible rfl))
      (try simp only [List.getElem_toArray, List.getElem_cons_succ, List.getElem_cons_zero, Act.put, List.setIfInBounds_toArray, List.set_cons_zero, List.set_cons_succ])
      (refine wpAnyH_take (i := 6) (oi := ?oif3_6) (v := ?vf3_6) ?hif3_6 ?hsf3_6 ?hff3_6 ?hrf3_6 ?hQf3_6 ?hyf3_6 ?hSf3_6 ?hf3_6)
      (case hif3_6 => rfl)
      (case hsf3_6 => kernel_rfl)
      (case hff3_6 => kernel_rfl)
      (case hrf3_6 => kernel_rfl)
      (case hQf3_6 => first | exact fun _ _ _ h => h | exact fun _ _ _ h => (nomatch h.1))
      (case hSf3_6 => assumption)
      (case hyf3_6 => (refine Or.inl ⟨by rfl, ?_⟩; intro W hW; skip; go_simp; try with_reducible rfl))
      (try simp only [List.getElem_toArray, List.getElem_cons_succ, List.getElem_cons_zero, Act.put, List.setIfInBounds_toArray, List.set_cons_zero, List.set_cons_succ])
      refine wpAnyH_ready (rs := [8]) (by kernel_rfl) (by simp) ?_
      refine AllReadyH.cons rfl (fun K' hK => ?_) AllReadyH.nil
      go_simp
      refine hK.out _ _ (((hHeld4.setCell (p := ⟨W4.heap.size, 0, none⟩) hXs _).setCell (p := ⟨W4.heap.size, 1, none⟩) hXs _).setCell (p := ⟨W4.heap.size, 2, none⟩) hXs _) (fun hHeld5 => ?_)
      clear hK
      try simp only [List.getElem_toArray, List.getElem_cons_succ, List.getElem_cons_zero, Act.put, List.setIfInBounds_toArray, List.set_cons_zero, List.set_cons_succ]
      (refine wpAnyH_take (i := 9) (oi := ?oif3_9) (v := ?vf3_9) ?hif3_9 ?hsf3_9 ?hff3_9 ?hrf3_9 ?hQf3_9 ?hyf3_9 ?hSf3_9 ?hf3_9)
      (case hif3_9 => rfl)
      (case hsf3_9 => kernel_rfl)
      (case hff3_9 => kernel_rfl)
      (case hrf3_9 => kernel_rfl)
      (case hQf3_9 => first | exact fun _ _ _ h => h | exact fun _ _ _ h => (nomatch h.1))
      (case hSf3_9 => assumption)
      (case hyf3_9 => (refine Or.inl ⟨by rfl, ?_⟩; intro W hW; skip; go_simp; try with_reducible rfl))
      (try simp only [List.getElem_toArray, List.getElem_cons_succ, List.getElem_cons_zero, Act.put, List.setIfInBounds_toArray, List.set_cons_zero, List.set_cons_succ])
      refine wpAnyH_done (by kernel_rfl) ?_ _
      have hBX := blk_set (blk_set (blk_set B9 0 (.int .i64 181)) 1 (.int .i64 0)) 2 (.int .i64 0)
      refine ⟨rfl, W4.heap.size, a8, ?_, hBX, hXs, hHeld5⟩
      rfl
  case impf =>
  rintro e ac W5 ⟨rfl, Xf, A8f, rfl, Bf, hXf, hBl5⟩
  have T5 := blk_below T4 hBl5
  have hb5 := Below.then hb4 hBl5 hb4.size
  clear t0 t1 t2 t3 t4 t5 t6 t7 t8 t9 t10 t11 t12
  replace Ba := blk_below Ba hBl5
  replace Bb := blk_below Bb hBl5
  replace Bc := blk_below Bc hBl5
  replace Bd := blk_below Bd hBl5
  have ra0 : W5.cell? ⟨Xa, 0, none⟩ = some (.int .i64 0) := blk_cell Ba 0 _ rfl
  have ra1 : W5.cell? ⟨Xa, 1, none⟩ = some (.int .i64 5) := blk_cell Ba 1 _ rfl
  have ra2 : W5.cell? ⟨Xa, 2, none⟩ = some (.int .i64 7) := blk_cell Ba 2 _ rfl
  have la := blk_lt Ba
  have rb0 : W5.cell? ⟨Xb, 0, none⟩ = some (.int .i64 132) := blk_cell Bb 0 _ rfl
  have rb1 : W5.cell? ⟨Xb, 1, none⟩ = some (.int .i64 0) := blk_cell Bb 1 _ rfl
  have rb2 : W5.cell? ⟨Xb, 2, none⟩ = some (.int .i64 0) := blk_cell Bb 2 _ rfl
  have lb := blk_lt Bb
  have rc0 : W5.cell? ⟨Xc, 0, none⟩ = some (.int .i64 131) := blk_cell Bc 0 _ rfl
  have rc1 : W5.cell? ⟨Xc, 1, none⟩ = some (.int .i64 0) := blk_cell Bc 1 _ rfl
  have rc2 : W5.cell? ⟨Xc, 2, none⟩ = some (.int .i64 0) := blk_cell Bc 2 _ rfl
  have lc := blk_lt Bc
  have rd0 : W5.cell? ⟨Xd, 0, none⟩ = some (.int .i64 183) := blk_cell Bd 0 _ rfl
  have rd1 : W5.cell? ⟨Xd, 1, none⟩ = some (.int .i64 0) := blk_cell Bd 1 _ rfl
  have rd2 : W5.cell? ⟨Xd, 2, none⟩ = some (.int .i64 0) := blk_cell Bd 2 _ rfl
  have ld := blk_lt Bd
  have rf0 : W5.cell? ⟨Xf, 0, none⟩ = some (.int .i64 181) := blk_cell Bf 0 _ rfl
  have rf1 : W5.cell? ⟨Xf, 1, none⟩ = some (.int .i64 0) := blk_cell Bf 1 _ rfl
  have rf2 : W5.cell? ⟨Xf, 2, none⟩ = some (.int .i64 0) := blk_cell Bf 2 _ rfl
  have lf := blk_lt Bf
  have t0 : W5.cell? ⟨TB, 0, none⟩ = some (.int .i64 0) := blk_cell T5 0 _ rfl
  have t1 : W5.cell? ⟨TB, 1, none⟩ = some (.int .i64 0) := blk_cell T5 1 _ rfl
  have t2 : W5.cell? ⟨TB, 2, none⟩ = some (.int .i64 0) := blk_cell T5 2 _ rfl
  have t3 : W5.cell? ⟨TB, 3, none⟩ = some (.int .i64 0) := blk_cell T5 3 _ rfl
  have t4 : W5.cell? ⟨TB, 4, none⟩ = some (.int .i64 0) := blk_cell T5 4 _ rfl
  have t5 : W5.cell? ⟨TB, 5, none⟩ = some (.int .i64 0) := blk_cell T5 5 _ rfl
  have t6 : W5.cell? ⟨TB, 6, none⟩ = some (.int .i64 0) := blk_cell T5 6 _ rfl
  have t7 : W5.cell? ⟨TB, 7, none⟩ = some (.int .u64 40) := blk_cell T5 7 _ rfl
  have t8 : W5.cell? ⟨TB, 8, none⟩ = some (.int .u64 0) := blk_cell T5 8 _ rfl
  have t9 : W5.cell? ⟨TB, 9, none⟩ = some (.int .u64 0) := blk_cell T5 9 _ rfl
  have t10 : W5.cell? ⟨TB, 10, none⟩ = some (.int .u64 0) := blk_cell T5 10 _ rfl
  have t11 : W5.cell? ⟨TB, 11, none⟩ = some (.int .u64 0) := blk_cell T5 11 _ rfl
  have t12 : W5.cell? ⟨TB, 12, none⟩ = some (.int .u64 0) := blk_cell T5 12 _ rfl
  have lT5 := blk_lt T5
  clear T0 T1 T2 T3 T4 T5 Ba Bb Bc Bd Bf hBl1 hBl2 hBl3 hBl4 hBl5 hb0 hb1 hb2 hb3 hb4
  go_wp2_with (first | (go_at_call 36; go_in) | (go_at_call 72; refine (HM.out _).mono ?_; rintro e6 w6 ⟨rfl, hb6⟩))
  go_ret
  exact ⟨rfl, Below.then hb5 hb6 hb5.size⟩
end Go.Proofs.Ytafenndokmccoaa
