/- The layer 'object': where fields stand. -/
import Derived.Test.YtiodkcecpnomcaaObjC
namespace Go.Proofs.Ytiodkcecpnomcaa
open Go.RowKit
set_option linter.unusedVariables false
set_option linter.unusedSimpArgs false

theorem size_small {t sp : Int} {ss : List ByteArray} {x i : Int} (h : 32 ≤ sp) : sizeO t sp ss x i ≤ sp := by
  obtain ⟨r1, r2⟩ := inV_range (t := t) (at_ := i) h
  unfold sizeO
  split
  · omega
  · omega
set_option maxRecDepth 100000 in
set_option maxHeartbeats 800000 in
theorem place_field (p b : Nat) (l : List Int) (t sp : Int) (a : Option Addr) (c : Nat) (ss : List ByteArray) (i : Nat) (f : Int) (hi : i < l.length) (h0 : 3 + 2 * t ≤ i) (h1 : (i : Int) < szP t sp) (hz : 0 < sizeO t sp ss l[i] i) (hf : f < 0 ∨ sizeO t sp ss l[i] i - 2 ≤ f) (w : World) (h : PIn w p b l t sp a ss) :
    Calls Try.prog 13 #[.pointer (some ⟨p, 0, none⟩), .agg #[.int .i64 t, .int .i64 sp, .slice a ss.length c], .int .i64 (i : Int), .int .i64 f] w fun e w' => e = .returned (.tuple #[.int .i64 0, .int .i64 131]) ∧ Below w.heap.size w w' := by
  have H := Lib.hid (fun W (h : PIn W p b l t sp a ss) => h.of c W)
  have S := fun B W hh => stands_ok p b l t sp a c ss B i h.n h.plan h0 h1 hi hz W hh
  obtain ⟨b1, b2, b3, b4, _⟩ := plan_ok h.plan
  have hsm : sizeO t sp ss l[i] i ≤ sp := size_small b3
  generalize sizeO t sp ss l[i] i = nn at S hz hf hsm
  have HP := Lib.hid h
  unfold szP at h1
  clear h
  have hwr : IntKind.i64.wrap (nn - 2) = nn - 2 := IntWalk.i64_in _ (by omega)
  have M := Lib.hid (fun W => must_no 131 W)
  by_cases hf0 : f < 0
  · have g1 : decide (f ≥ 0) = false := by rw [decide_eq_false_iff_not]; omega
    unfold heapV at H S
    have S := Lib.hid S
    go_enter_defers Try.func13, Try.ntmps13
    go_wp2_with fail
    refine (H.out _ ((HP.out.alloc _).alloc _)).mono ?_
    rintro e1 w1 ⟨rfl, hi1, hb1⟩
    obtain ⟨hc1, hf1⟩ := bcell hb1
    have hz1 := hb1.size
    (try simp at hz1)
    have e0 := hc1 (w.heap.size + 1) 0 (by first | omega | (simp; done) | (simp; omega)); simp [go_sem] at e0
    have z0 := hf1 (w.heap.size + 1) 0 (by first | omega | (simp; done) | (simp; omega)); simp [go_sem] at z0
    have hi1 : HIn w1 p b l (w.heap.size + 1 + 1) a ss := by simpa using hi1
    go_wp2_with fail
    refine (S.out _ _ hi1).mono ?_
    rintro e2 w2 ⟨rfl, hb2⟩
    have hz2 := hb2.size
    replace e0 := hold_cell (w2 := w2) e0 (by (repeat (first | exact Below.refl _ _ | (with_reducible assumption) | refine Below.drew ?_ | refine Below.drewN' ?_ _ | refine Below.alloc ?_ (by first | omega | (simp; done) | (simp; omega)) _ | refine Below.setCell ?_ (by first | omega | (simp; done) | (simp; omega)) _ | refine Below.then ?_ hb9 (by first | omega | (simp; done) | (simp; omega)) | refine Below.then ?_ hb8 (by first | omega | (simp; done) | (simp; omega)) | refine Below.then ?_ hb7 (by first | omega | (simp; done) | (simp; omega)) | refine Below.then ?_ hb6 (by first | omega | (simp; done) | (simp; omega)) | refine Below.then ?_ hb5 (by first | omega | (simp; done) | (simp; omega)) | refine Below.then ?_ hb4 (by first | omega | (simp; done) | (simp; omega)) | refine Below.then ?_ hb3 (by first | omega | (simp; done) | (simp; omega)) | refine Below.then ?_ hb2 (by first | omega | (simp; done) | (simp; omega)) | refine Below.then ?_ hb1 (by first | omega | (simp; done) | (simp; omega))))) (by first | omega | (simp; done) | (simp; omega))
    replace z0 := (hb2.frozen (p := ⟨w.heap.size + 1, 0, none⟩) (by show w.heap.size + 1 < _; omega)).trans z0
    go_wp2_with fail
    refine (M.out _).mono ?_
    rintro e3 w3 ⟨rfl, hb3⟩
    have hz3 := hb3.size
    replace e0 := hold_cell (w2 := w3) e0 (by (repeat (first | exact Below.refl _ _ | (with_reducible assumption) | refine Below.drew ?_ | refine Below.drewN' ?_ _ | refine Below.alloc ?_ (by first | omega | (simp; done) | (simp; omega)) _ | refine Below.setCell ?_ (by first | omega | (simp; done) | (simp; omega)) _ | refine Below.then ?_ hb9 (by first | omega | (simp; done) | (simp; omega)) | refine Below.then ?_ hb8 (by first | omega | (simp; done) | (simp; omega)) | refine Below.then ?_ hb7 (by first | omega | (simp; done) | (simp; omega)) | refine Below.then ?_ hb6 (by first | omega | (simp; done) | (simp; omega)) | refine Below.then ?_ hb5 (by first | omega | (simp; done) | (simp; omega)) | refine Below.then ?_ hb4 (by first | omega | (simp; done) | (simp; omega)) | refine Below.then ?_ hb3 (by first | omega | (simp; done) | (simp; omega)) | refine Below.then ?_ hb2 (by first | omega | (simp; done) | (simp; omega)) | refine Below.then ?_ hb1 (by first | omega | (simp; done) | (simp; omega))))) (by first | omega | (simp; done) | (simp; omega))
    replace z0 := (hb3.frozen (p := ⟨w.heap.size + 1, 0, none⟩) (by show w.heap.size + 1 < _; omega)).trans z0
    go_wp2
    refine leaves_cons (f := 29) (args := #[.pointer (some ⟨w.heap.size + 1, 0, none⟩)]) (by simp) (by simp [go_sem]) ?_
    refine (caught_up (w.heap.size + 1) 0 131 [] w3 e0 z0).mono ?_
    rintro e u' w'' ⟨rfl, rfl, rfl⟩
    have e1 := cell_put w3 ⟨w.heap.size + 1, 0, none⟩ (.int .i64 131) (by rw [e0]; rfl)
    simp [Leaves, settle, results, Try.results13, go_sem, e1]
    (repeat (first | exact Below.refl _ _ | (with_reducible assumption) | refine Below.drew ?_ | refine Below.drewN' ?_ _ | refine Below.alloc ?_ (by first | omega | (simp; done) | (simp; omega)) _ | refine Below.setCell ?_ (by first | omega | (simp; done) | (simp; omega)) _ | refine Below.then ?_ hb9 (by first | omega | (simp; done) | (simp; omega)) | refine Below.then ?_ hb8 (by first | omega | (simp; done) | (simp; omega)) | refine Below.then ?_ hb7 (by first | omega | (simp; done) | (simp; omega)) | refine Below.then ?_ hb6 (by first | omega | (simp; done) | (simp; omega)) | refine Below.then ?_ hb5 (by first | omega | (simp; done) | (simp; omega)) | refine Below.then ?_ hb4 (by first | omega | (simp; done) | (simp; omega)) | refine Below.then ?_ hb3 (by first | omega | (simp; done) | (simp; omega)) | refine Below.then ?_ hb2 (by first | omega | (simp; done) | (simp; omega)) | refine Below.then ?_ hb1 (by first | omega | (simp; done) | (simp; omega))))
  · have g1 : decide (f ≥ 0) = true := by rw [decide_eq_true_eq]; omega
    have g2 : decide (f < nn - 2) = false := by rw [decide_eq_false_iff_not]; omega
    unfold heapV at H S
    have S := Lib.hid S
    go_enter_defers Try.func13, Try.ntmps13
    go_wp2_with fail
    refine (H.out _ ((HP.out.alloc _).alloc _)).mono ?_
    rintro e1 w1 ⟨rfl, hi1, hb1⟩
    obtain ⟨hc1, hf1⟩ := bcell hb1
    have hz1 := hb1.size
    (try simp at hz1)
    have e0 := hc1 (w.heap.size + 1) 0 (by first | omega | (simp; done) | (simp; omega)); simp [go_sem] at e0
    have z0 := hf1 (w.heap.size + 1) 0 (by first | omega | (simp; done) | (simp; omega)); simp [go_sem] at z0
    have hi1 : HIn w1 p b l (w.heap.size + 1 + 1) a ss := by simpa using hi1
    go_wp2_with fail
    refine (S.out _ _ hi1).mono ?_
    rintro e2 w2 ⟨rfl, hb2⟩
    have hz2 := hb2.size
    replace e0 := hold_cell (w2 := w2) e0 (by (repeat (first | exact Below.refl _ _ | (with_reducible assumption) | refine Below.drew ?_ | refine Below.drewN' ?_ _ | refine Below.alloc ?_ (by first | omega | (simp; done) | (simp; omega)) _ | refine Below.setCell ?_ (by first | omega | (simp; done) | (simp; omega)) _ | refine Below.then ?_ hb9 (by first | omega | (simp; done) | (simp; omega)) | refine Below.then ?_ hb8 (by first | omega | (simp; done) | (simp; omega)) | refine Below.then ?_ hb7 (by first | omega | (simp; done) | (simp; omega)) | refine Below.then ?_ hb6 (by first | omega | (simp; done) | (simp; omega)) | refine Below.then ?_ hb5 (by first | omega | (simp; done) | (simp; omega)) | refine Below.then ?_ hb4 (by first | omega | (simp; done) | (simp; omega)) | refine Below.then ?_ hb3 (by first | omega | (simp; done) | (simp; omega)) | refine Below.then ?_ hb2 (by first | omega | (simp; done) | (simp; omega)) | refine Below.then ?_ hb1 (by first | omega | (simp; done) | (simp; omega))))) (by first | omega | (simp; done) | (simp; omega))
    replace z0 := (hb2.frozen (p := ⟨w.heap.size + 1, 0, none⟩) (by show w.heap.size + 1 < _; omega)).trans z0
    go_wp2_with fail
    refine (M.out _).mono ?_
    rintro e3 w3 ⟨rfl, hb3⟩
    have hz3 := hb3.size
    replace e0 := hold_cell (w2 := w3) e0 (by (repeat (first | exact Below.refl _ _ | (with_reducible assumption) | refine Below.drew ?_ | refine Below.drewN' ?_ _ | refine Below.alloc ?_ (by first | omega | (simp; done) | (simp; omega)) _ | refine Below.setCell ?_ (by first | omega | (simp; done) | (simp; omega)) _ | refine Below.then ?_ hb9 (by first | omega | (simp; done) | (simp; omega)) | refine Below.then ?_ hb8 (by first | omega | (simp; done) | (simp; omega)) | refine Below.then ?_ hb7 (by first | omega | (simp; done) | (simp; omega)) | refine Below.then ?_ hb6 (by first | omega | (simp; done) | (simp; omega)) | refine Below.then ?_ hb5 (by first | omega | (simp; done) | (simp; omega)) | refine Below.then ?_ hb4 (by first | omega | (simp; done) | (simp; omega)) | refine Below.then ?_ hb3 (by first | omega | (simp; done) | (simp; omega)) | refine Below.then ?_ hb2 (by first | omega | (simp; done) | (simp; omega)) | refine Below.then ?_ hb1 (by first | omega | (simp; done) | (simp; omega))))) (by first | omega | (simp; done) | (simp; omega))
    replace z0 := (hb3.frozen (p := ⟨w.heap.size + 1, 0, none⟩) (by show w.heap.size + 1 < _; omega)).trans z0
    go_wp2
    refine leaves_cons (f := 29) (args := #[.pointer (some ⟨w.heap.size + 1, 0, none⟩)]) (by simp) (by simp [go_sem]) ?_
    refine (caught_up (w.heap.size + 1) 0 131 [] w3 e0 z0).mono ?_
    rintro e u' w'' ⟨rfl, rfl, rfl⟩
    have e1 := cell_put w3 ⟨w.heap.size + 1, 0, none⟩ (.int .i64 131) (by rw [e0]; rfl)
    simp [Leaves, settle, results, Try.results13, go_sem, e1]
    (repeat (first | exact Below.refl _ _ | (with_reducible assumption) | refine Below.drew ?_ | refine Below.drewN' ?_ _ | refine Below.alloc ?_ (by first | omega | (simp; done) | (simp; omega)) _ | refine Below.setCell ?_ (by first | omega | (simp; done) | (simp; omega)) _ | refine Below.then ?_ hb9 (by first | omega | (simp; done) | (simp; omega)) | refine Below.then ?_ hb8 (by first | omega | (simp; done) | (simp; omega)) | refine Below.then ?_ hb7 (by first | omega | (simp; done) | (simp; omega)) | refine Below.then ?_ hb6 (by first | omega | (simp; done) | (simp; omega)) | refine Below.then ?_ hb5 (by first | omega | (simp; done) | (simp; omega)) | refine Below.then ?_ hb4 (by first | omega | (simp; done) | (simp; omega)) | refine Below.then ?_ hb3 (by first | omega | (simp; done) | (simp; omega)) | refine Below.then ?_ hb2 (by first | omega | (simp; done) | (simp; omega)) | refine Below.then ?_ hb1 (by first | omega | (simp; done) | (simp; omega))))

set_option maxRecDepth 100000 in
set_option maxHeartbeats 800000 in
theorem place_ok (p b : Nat) (l : List Int) (t sp : Int) (a : Option Addr) (c : Nat) (ss : List ByteArray) (i : Nat) (f : Int) (hi : i < l.length) (h0 : 3 + 2 * t ≤ i) (h1 : (i : Int) < szP t sp) (hz : 0 < sizeO t sp ss l[i] i) (hf : 0 ≤ f ∧ f < sizeO t sp ss l[i] i - 2) (w : World) (h : PIn w p b l t sp a ss) :
    Calls Try.prog 13 #[.pointer (some ⟨p, 0, none⟩), .agg #[.int .i64 t, .int .i64 sp, .slice a ss.length c], .int .i64 (i : Int), .int .i64 f] w fun e w' => e = .returned (.tuple #[.int .i64 (i + 2 + f), .int .i64 0]) ∧ Below w.heap.size w w' := by
  have H := Lib.hid (fun W (h : PIn W p b l t sp a ss) => h.of c W)
  have S := fun B W hh => stands_ok p b l t sp a c ss B i h.n h.plan h0 h1 hi hz W hh
  obtain ⟨b1, b2, b3, b4, _⟩ := plan_ok h.plan
  have hsm : sizeO t sp ss l[i] i ≤ sp := size_small b3
  generalize sizeO t sp ss l[i] i = nn at S hz hf hsm
  have HP := Lib.hid h
  unfold szP at h1
  clear h
  have hwr : IntKind.i64.wrap (nn - 2) = nn - 2 := IntWalk.i64_in _ (by omega)
  have M := Lib.hid (fun W => must_ok 131 W)
  have g1 : decide (f ≥ 0) = true := by rw [decide_eq_true_eq]; omega
  have g2 : decide (f < nn - 2) = true := by rw [decide_eq_true_eq]; omega
  have hw2 : IntKind.i64.wrap ((i : Int) + 2) = i + 2 := IntWalk.i64_in _ (by omega)
  have hw3 : IntKind.i64.wrap ((i : Int) + 2 + f) = i + 2 + f := IntWalk.i64_in _ (by omega)
  unfold heapV at H S
  have S := Lib.hid S
  go_enter_defers Try.func13, Try.ntmps13
  go_wp2_with fail
  refine (H.out _ ((HP.out.alloc _).alloc _)).mono ?_
  rintro e1 w1 ⟨rfl, hi1, hb1⟩
  obtain ⟨hc1, hf1⟩ := bcell hb1
  have hz1 := hb1.size
  (try simp at hz1)
  have e0 := hc1 (w.heap.size + 1) 0 (by first | omega | (simp; done) | (simp; omega)); simp [go_sem] at e0
  have z0 := hf1 (w.heap.size + 1) 0 (by first | omega | (simp; done) | (simp; omega)); simp [go_sem] at z0
  have hi1 : HIn w1 p b l (w.heap.size + 1 + 1) a ss := by simpa using hi1
  go_wp2_with fail
  refine (S.out _ _ hi1).mono ?_
  rintro e2 w2 ⟨rfl, hb2⟩
  have hz2 := hb2.size
  replace e0 := hold_cell (w2 := w2) e0 (by (repeat (first | exact Below.refl _ _ | (with_reducible assumption) | refine Below.drew ?_ | refine Below.drewN' ?_ _ | refine Below.alloc ?_ (by first | omega | (simp; done) | (simp; omega)) _ | refine Below.setCell ?_ (by first | omega | (simp; done) | (simp; omega)) _ | refine Below.then ?_ hb9 (by first | omega | (simp; done) | (simp; omega)) | refine Below.then ?_ hb8 (by first | omega | (simp; done) | (simp; omega)) | refine Below.then ?_ hb7 (by first | omega | (simp; done) | (simp; omega)) | refine Below.then ?_ hb6 (by first | omega | (simp; done) | (simp; omega)) | refine Below.then ?_ hb5 (by first | omega | (simp; done) | (simp; omega)) | refine Below.then ?_ hb4 (by first | omega | (simp; done) | (simp; omega)) | refine Below.then ?_ hb3 (by first | omega | (simp; done) | (simp; omega)) | refine Below.then ?_ hb2 (by first | omega | (simp; done) | (simp; omega)) | refine Below.then ?_ hb1 (by first | omega | (simp; done) | (simp; omega))))) (by first | omega | (simp; done) | (simp; omega))
  replace z0 := (hb2.frozen (p := ⟨w.heap.size + 1, 0, none⟩) (by show w.heap.size + 1 < _; omega)).trans z0
  go_wp2_with fail
  refine (M.out _).mono ?_
  rintro e3 w3 ⟨rfl, hb3⟩
  have hz3 := hb3.size
  replace e0 := hold_cell (w2 := w3) e0 (by (repeat (first | exact Below.refl _ _ | (with_reducible assumption) | refine Below.drew ?_ | refine Below.drewN' ?_ _ | refine Below.alloc ?_ (by first | omega | (simp; done) | (simp; omega)) _ | refine Below.setCell ?_ (by first | omega | (simp; done) | (simp; omega)) _ | refine Below.then ?_ hb9 (by first | omega | (simp; done) | (simp; omega)) | refine Below.then ?_ hb8 (by first | omega | (simp; done) | (simp; omega)) | refine Below.then ?_ hb7 (by first | omega | (simp; done) | (simp; omega)) | refine Below.then ?_ hb6 (by first | omega | (simp; done) | (simp; omega)) | refine Below.then ?_ hb5 (by first | omega | (simp; done) | (simp; omega)) | refine Below.then ?_ hb4 (by first | omega | (simp; done) | (simp; omega)) | refine Below.then ?_ hb3 (by first | omega | (simp; done) | (simp; omega)) | refine Below.then ?_ hb2 (by first | omega | (simp; done) | (simp; omega)) | refine Below.then ?_ hb1 (by first | omega | (simp; done) | (simp; omega))))) (by first | omega | (simp; done) | (simp; omega))
  replace z0 := (hb3.frozen (p := ⟨w.heap.size + 1, 0, none⟩) (by show w.heap.size + 1 < _; omega)).trans z0
  go_wp2
  refine leaves_cons (f := 29) (args := #[.pointer (some ⟨w.heap.size + 1, 0, none⟩)]) (by simp) (by simp [go_sem]) ?_
  refine (caught_idle (w.heap.size + 1) _).mono ?_
  rintro e u' w'' ⟨rfl, rfl, rfl⟩
  have e1 := cell_put w3 ⟨w.heap.size + 1, 0, none⟩ (.int .i64 0) (by rw [e0]; rfl)
  simp [Leaves, settle, results, Try.results13, go_sem, e1]
  (repeat (first | exact Below.refl _ _ | (with_reducible assumption) | refine Below.drew ?_ | refine Below.drewN' ?_ _ | refine Below.alloc ?_ (by first | omega | (simp; done) | (simp; omega)) _ | refine Below.setCell ?_ (by first | omega | (simp; done) | (simp; omega)) _ | refine Below.then ?_ hb9 (by first | omega | (simp; done) | (simp; omega)) | refine Below.then ?_ hb8 (by first | omega | (simp; done) | (simp; omega)) | refine Below.then ?_ hb7 (by first | omega | (simp; done) | (simp; omega)) | refine Below.then ?_ hb6 (by first | omega | (simp; done) | (simp; omega)) | refine Below.then ?_ hb5 (by first | omega | (simp; done) | (simp; omega)) | refine Below.then ?_ hb4 (by first | omega | (simp; done) | (simp; omega)) | refine Below.then ?_ hb3 (by first | omega | (simp; done) | (simp; omega)) | refine Below.then ?_ hb2 (by first | omega | (simp; done) | (simp; omega)) | refine Below.then ?_ hb1 (by first | omega | (simp; done) | (simp; omega))))
end Go.Proofs.Ytiodkcecpnomcaa
