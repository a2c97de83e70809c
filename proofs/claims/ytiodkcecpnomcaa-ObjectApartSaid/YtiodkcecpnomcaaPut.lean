/- The layer 'object': Put, way by way. -/
import Derived.Test.YtiodkcecpnomcaaConcat
import Derived.Test.YtiodkcecpnomcaaObjH
import Derived.Test.YtiodkcecpnomcaaPutI
import Derived.Deep.RegionWith
namespace Go.Proofs.Ytiodkcecpnomcaa
open Go.RowKit
set_option linter.unusedVariables false
set_option linter.unusedSimpArgs false
attribute [local go_sem ↓] Go.wp_at_zero Go.wp_at_succ

theorem hword_rng {s m : Int} (h : rightB s m = true) : 0 ≤ hWord s m ∧ hWord s m < 18446744073709551616 := by
  have := rightB_mk.1 h
  unfold hWord
  omega
theorem hword_ok {s m : Int} (h : rightB s m = true) : hOk (hWord s m) = true ∧ hShape (hWord s m) = s ∧ hMark (hWord s m) = m := by
  have := rightB_mk.1 h
  have e : hOk (hWord s m) = true := by
    unfold hOk
    rw [decide_eq_true_eq]
    unfold hWord
    omega
  refine ⟨e, ?_, ?_⟩
  · unfold hShape
    rw [if_pos e]
    unfold hWord
    omega
  · unfold hMark
    rw [if_pos e]
    unfold hWord
    omega
theorem hword_size {s m : Int} {ss : List ByteArray} (h : rightB s m = true) : hSizeN (hWord s m) ss = sizeN ss s := by
  obtain ⟨h1, h2, _⟩ := hword_ok h
  unfold hSizeN
  rw [if_pos h1, h2]
theorem hword_err {s m : Int} {ss : List ByteArray} (h : rightB s m = true) : hSizeE (hWord s m) ss = ofE ss s := by
  obtain ⟨h1, h2, _⟩ := hword_ok h
  unfold hSizeE
  rw [if_pos h1, h2]

set_option maxRecDepth 100000 in
set_option maxHeartbeats 800000 in
theorem put_of (pa : Option Addr) (t sp : Int) (a : Option Addr) (c n : Nat) (at_ s m link : Int) (fa : Option Addr) (fn fc : Nat) (k : Int) (w : World) (h : ∀ W, Below w.heap.size w W → Calls Try.prog 30 #[.pointer pa, .agg #[.int .i64 t, .int .i64 sp, .slice a n c]] W fun e w' => e = .panicked (up k) ∧ Below W.heap.size W w') :
    Calls Try.prog 19 #[.pointer pa, .agg #[.int .i64 t, .int .i64 sp, .slice a n c], objV at_ s m link fa fn fc] w fun e w' => e = .returned (.int .i64 k) ∧ Below w.heap.size w w' := by
  have H := Lib.hid h
  clear h
  unfold objV
  go_enter_defers Try.func19, Try.ntmps19
  go_wp2_with fail
  refine (H.out _ ?hbel).mono ?_
  case hbel => (repeat (first | exact Below.refl _ _ | (with_reducible assumption) | refine Below.drew ?_ | refine Below.drewN' ?_ _ | refine Below.alloc ?_ (by first | omega | (simp; done) | (simp; omega)) _ | refine Below.setCell ?_ (by first | omega | (simp; done) | (simp; omega)) _ | refine Below.then ?_ hb9 (by first | omega | (simp; done) | (simp; omega)) | refine Below.then ?_ hb8 (by first | omega | (simp; done) | (simp; omega)) | refine Below.then ?_ hb7 (by first | omega | (simp; done) | (simp; omega)) | refine Below.then ?_ hb6 (by first | omega | (simp; done) | (simp; omega)) | refine Below.then ?_ hb5 (by first | omega | (simp; done) | (simp; omega)) | refine Below.then ?_ hb4 (by first | omega | (simp; done) | (simp; omega)) | refine Below.then ?_ hb3 (by first | omega | (simp; done) | (simp; omega)) | refine Below.then ?_ hb2 (by first | omega | (simp; done) | (simp; omega)) | refine Below.then ?_ hb1 (by first | omega | (simp; done) | (simp; omega))))
  rintro e1 w1 ⟨rfl, hb1⟩
  obtain ⟨hc1, hf1⟩ := bcell hb1
  have hz1 := hb1.size
  (try simp at hz1)
  have e0 := hc1 (w.heap.size + 2) 0 (by first | omega | (simp; done) | (simp; omega)); simp [go_sem] at e0
  have z0 := hf1 (w.heap.size + 2) 0 (by first | omega | (simp; done) | (simp; omega)); simp [go_sem] at z0
  go_wp2
  refine leaves_cons (f := 29) (args := #[.pointer (some ⟨w.heap.size + 1 + 1, 0, none⟩)]) (by simp) (by simp [go_sem]) ?_
  refine (caught_up (w.heap.size + 1 + 1) 0 k [] w1 e0 z0).mono ?_
  rintro e u' w'' ⟨rfl, rfl, rfl⟩
  have e1 := cell_put w1 ⟨w.heap.size + 1 + 1, 0, none⟩ (.int .i64 k) (by rw [e0]; rfl)
  simp [Leaves, settle, results, Try.results19, go_sem, e1]
  (repeat (first | exact Below.refl _ _ | (with_reducible assumption) | refine Below.drew ?_ | refine Below.drewN' ?_ _ | refine Below.alloc ?_ (by first | omega | (simp; done) | (simp; omega)) _ | refine Below.setCell ?_ (by first | omega | (simp; done) | (simp; omega)) _ | refine Below.then ?_ hb9 (by first | omega | (simp; done) | (simp; omega)) | refine Below.then ?_ hb8 (by first | omega | (simp; done) | (simp; omega)) | refine Below.then ?_ hb7 (by first | omega | (simp; done) | (simp; omega)) | refine Below.then ?_ hb6 (by first | omega | (simp; done) | (simp; omega)) | refine Below.then ?_ hb5 (by first | omega | (simp; done) | (simp; omega)) | refine Below.then ?_ hb4 (by first | omega | (simp; done) | (simp; omega)) | refine Below.then ?_ hb3 (by first | omega | (simp; done) | (simp; omega)) | refine Below.then ?_ hb2 (by first | omega | (simp; done) | (simp; omega)) | refine Below.then ?_ hb1 (by first | omega | (simp; done) | (simp; omega))))

set_option maxRecDepth 100000 in
set_option maxHeartbeats 1600000 in
theorem put_head (p b : Nat) (l : List Int) (t sp : Int) (a : Option Addr) (c : Nat) (ss : List ByteArray) (at_ s m link : Int) (fa : Option Addr) (fc : Nat) (fl : List Int) (hr : rightB s m = false) (w : World) (h : PIn w p b l t sp a ss) :
    Calls Try.prog 19 #[.pointer (some ⟨p, 0, none⟩), .agg #[.int .i64 t, .int .i64 sp, .slice a ss.length c], objV at_ s m link fa fl.length fc] w fun e w' => e = .returned (.int .i64 2) ∧ Below w.heap.size w w' := by
  have H := Lib.hid (fun W (h : PIn W p b l t sp a ss) => h.of c W)
  obtain ⟨b1, b2, b3, b4, _⟩ := plan_ok h.plan
  have hl4 := h.ar.len
  have hll := h.len
  have hnn := h.n
  have HP := Lib.hid h
  have MK := Lib.hid (fun W => make_calls s m W)
  unfold heapV at H
  have e1 : hMakeE s m = 2 := by unfold hMakeE; rw [hr]; rfl
  rw [e1] at MK
  have M2 := Lib.hid (fun W => must_no 2 W)
  clear h
  unfold objV
  go_enter_defers Try.func19, Try.ntmps19
  go_wp2_with fail
  refine (H.out _ (((HP.out.alloc _).alloc _).alloc _)).mono ?_
  rintro e1 w1 ⟨rfl, hi1, hb1⟩
  obtain ⟨hc1, hf1⟩ := bcell hb1
  have hz1 := hb1.size
  (try simp at hz1)
  have hi1 : HIn w1 p b l (w.heap.size + 1 + 1 + 1) a ss := by simpa using hi1
  have hb01 : Below w.heap.size w w1 := by (repeat (first | exact Below.refl _ _ | (with_reducible assumption) | refine Below.drew ?_ | refine Below.drewN' ?_ _ | refine Below.alloc ?_ (by first | omega | (simp; done) | (simp; omega)) _ | refine Below.setCell ?_ (by first | omega | (simp; done) | (simp; omega)) _ | refine Below.then ?_ hb9 (by first | omega | (simp; done) | (simp; omega)) | refine Below.then ?_ hb8 (by first | omega | (simp; done) | (simp; omega)) | refine Below.then ?_ hb7 (by first | omega | (simp; done) | (simp; omega)) | refine Below.then ?_ hb6 (by first | omega | (simp; done) | (simp; omega)) | refine Below.then ?_ hb5 (by first | omega | (simp; done) | (simp; omega)) | refine Below.then ?_ hb4 (by first | omega | (simp; done) | (simp; omega)) | refine Below.then ?_ hb3 (by first | omega | (simp; done) | (simp; omega)) | refine Below.then ?_ hb2 (by first | omega | (simp; done) | (simp; omega)) | refine Below.then ?_ hb1 (by first | omega | (simp; done) | (simp; omega))))
  have e0 := hc1 (w.heap.size + 1 + 1) 0 (by first | omega | (simp; done) | (simp; omega)); simp [go_sem] at e0
  have x0 := hc1 (w.heap.size + 1) 0 (by first | omega | (simp; done) | (simp; omega)); simp [go_sem] at x0
  have x1 := hc1 (w.heap.size + 1) 1 (by first | omega | (simp; done) | (simp; omega)); simp [go_sem] at x1
  have x2 := hc1 (w.heap.size + 1) 2 (by first | omega | (simp; done) | (simp; omega)); simp [go_sem] at x2
  have x3 := hc1 (w.heap.size + 1) 3 (by first | omega | (simp; done) | (simp; omega)); simp [go_sem] at x3
  have x4 := hc1 (w.heap.size + 1) 4 (by first | omega | (simp; done) | (simp; omega)); simp [go_sem] at x4
  have p0 := hc1 (w.heap.size) 0 (by first | omega | (simp; done) | (simp; omega)); simp [go_sem] at p0
  have p1 := hc1 (w.heap.size) 1 (by first | omega | (simp; done) | (simp; omega)); simp [go_sem] at p1
  have p2 := hc1 (w.heap.size) 2 (by first | omega | (simp; done) | (simp; omega)); simp [go_sem] at p2
  have z0 := hf1 (w.heap.size + 1 + 1) 0 (by first | omega | (simp; done) | (simp; omega)); simp [go_sem] at z0
  clear hc1 hf1
  have la : w.heap.size < w1.heap.size := by first | omega | (simp; done) | (simp; omega)
  have lb : w.heap.size + 1 < w1.heap.size := by first | omega | (simp; done) | (simp; omega)
  have lc : w.heap.size + 1 + 1 < w1.heap.size := by first | omega | (simp; done) | (simp; omega)
  go_wp2_with fail
  refine (MK.out _).mono ?_
  rintro e2 w2 ⟨rfl, hb2⟩
  obtain ⟨hc2, hf2⟩ := bcell hb2
  have hz2 := hb2.size
  (try simp at hz2)
  have kc2 := fun B o (hB : B < w1.heap.size) => (hc2 B o (by simp; omega)).trans (((Below.refl w1.heap.size w1).alloc (Nat.le_refl _) _).cell (p := ⟨B, o, none⟩) hB)
  have kf2 := fun B o (hB : B < w1.heap.size) => (hf2 B o (by simp; omega)).trans (((Below.refl w1.heap.size w1).alloc (Nat.le_refl _) _).frozen (p := ⟨B, o, none⟩) hB)
  have a0 := hc2 w1.heap.size 0 (by first | omega | (simp; done) | (simp; omega)); simp [go_sem] at a0
  have a1 := hc2 w1.heap.size 1 (by first | omega | (simp; done) | (simp; omega)); simp [go_sem] at a1
  have a2 := hc2 w1.heap.size 2 (by first | omega | (simp; done) | (simp; omega)); simp [go_sem] at a2
  have a3 := hc2 w1.heap.size 3 (by first | omega | (simp; done) | (simp; omega)); simp [go_sem] at a3
  replace e0 := (kc2 (w.heap.size + 1 + 1) 0 (by omega)).trans e0
  replace x0 := (kc2 (w.heap.size + 1) 0 (by omega)).trans x0
  replace x1 := (kc2 (w.heap.size + 1) 1 (by omega)).trans x1
  replace x2 := (kc2 (w.heap.size + 1) 2 (by omega)).trans x2
  replace x3 := (kc2 (w.heap.size + 1) 3 (by omega)).trans x3
  replace x4 := (kc2 (w.heap.size + 1) 4 (by omega)).trans x4
  replace p0 := (kc2 (w.heap.size) 0 (by omega)).trans p0
  replace p1 := (kc2 (w.heap.size) 1 (by omega)).trans p1
  replace p2 := (kc2 (w.heap.size) 2 (by omega)).trans p2
  replace z0 := (kf2 (w.heap.size + 1 + 1) 0 (by omega)).trans z0
  have hb12 : Below w1.heap.size w1 w2 := ((Below.refl _ _).alloc (Nat.le_refl _) _).trans (hb2.mono (by simp))
  have hi2 := hi1.below hb12
  have hb02 : Below w.heap.size w w2 := hb01.trans (hb12.mono (by omega))
  clear kc2 kf2 hc2 hf2 hb2
  go_wp2_with fail
  refine (M2.out _).mono ?_
  rintro e3 w3 ⟨rfl, hb3⟩
  obtain ⟨hc3, hf3⟩ := bcell hb3
  have hz3 := hb3.size
  (try simp at hz3)
  replace e0 := (hc3 (w.heap.size + 1 + 1) 0 (by omega)).trans e0
  replace z0 := (hf3 (w.heap.size + 1 + 1) 0 (by omega)).trans z0
  go_wp2
  refine leaves_cons (f := 29) (args := #[.pointer (some ⟨w.heap.size + 1 + 1, 0, none⟩)]) (by simp) (by simp [go_sem]) ?_
  refine (caught_up (w.heap.size + 1 + 1) 0 2 [] w3 e0 z0).mono ?_
  rintro e u' w'' ⟨rfl, rfl, rfl⟩
  have e1 := cell_put w3 ⟨w.heap.size + 1 + 1, 0, none⟩ (.int .i64 2) (by rw [e0]; rfl)
  simp [Leaves, settle, results, Try.results19, go_sem, e1]
  (repeat (first | exact Below.refl _ _ | (with_reducible assumption) | refine Below.drew ?_ | refine Below.drewN' ?_ _ | refine Below.alloc ?_ (by first | omega | (simp; done) | (simp; omega)) _ | refine Below.setCell ?_ (by first | omega | (simp; done) | (simp; omega)) _ | refine Below.then ?_ hb9 (by first | omega | (simp; done) | (simp; omega)) | refine Below.then ?_ hb8 (by first | omega | (simp; done) | (simp; omega)) | refine Below.then ?_ hb7 (by first | omega | (simp; done) | (simp; omega)) | refine Below.then ?_ hb6 (by first | omega | (simp; done) | (simp; omega)) | refine Below.then ?_ hb5 (by first | omega | (simp; done) | (simp; omega)) | refine Below.then ?_ hb4 (by first | omega | (simp; done) | (simp; omega)) | refine Below.then ?_ hb3 (by first | omega | (simp; done) | (simp; omega)) | refine Below.then ?_ hb2 (by first | omega | (simp; done) | (simp; omega)) | refine Below.then ?_ hb1 (by first | omega | (simp; done) | (simp; omega))))

set_option maxRecDepth 100000 in
set_option maxHeartbeats 1600000 in
theorem put_shape (p b : Nat) (l : List Int) (t sp : Int) (a : Option Addr) (c : Nat) (ss : List ByteArray) (at_ s m link : Int) (fa : Option Addr) (fc : Nat) (fl : List Int) (hr : rightB s m = true) (he : ofE ss s ≠ 0) (w : World) (h : PIn w p b l t sp a ss) :
    Calls Try.prog 19 #[.pointer (some ⟨p, 0, none⟩), .agg #[.int .i64 t, .int .i64 sp, .slice a ss.length c], objV at_ s m link fa fl.length fc] w fun e w' => e = .returned (.int .i64 2) ∧ Below w.heap.size w w' := by
  have H := Lib.hid (fun W (h : PIn W p b l t sp a ss) => h.of c W)
  obtain ⟨b1, b2, b3, b4, _⟩ := plan_ok h.plan
  have hl4 := h.ar.len
  have hll := h.len
  have hnn := h.n
  have HP := Lib.hid h
  have MK := Lib.hid (fun W => make_calls s m W)
  unfold heapV at H
  have e1 : hMakeE s m = 0 := by unfold hMakeE; rw [hr]; rfl
  have e2 : hMakeW s m = hWord s m := by unfold hMakeW; rw [hr]; rfl
  rw [e1, e2] at MK
  have HM := Lib.hid (fun n W => must_ok n W)
  have hwr := hword_rng hr
  have SZ := fun W h => hSize_calls (hWord s m) hwr.1 hwr.2 a c ss hnn W h
  rw [hword_size hr, hword_err hr] at SZ
  generalize sizeN ss s = nn at SZ
  generalize ofE ss s = ee at SZ he
  have g1 : (ee == 0) = false := beq_eq_false_iff_ne.2 he
  have SZ := Lib.hid SZ
  have M2 := Lib.hid (fun W => must_no 2 W)
  clear h
  unfold objV
  go_enter_defers Try.func19, Try.ntmps19
  go_wp2_with fail
  refine (H.out _ (((HP.out.alloc _).alloc _).alloc _)).mono ?_
  rintro e1 w1 ⟨rfl, hi1, hb1⟩
  obtain ⟨hc1, hf1⟩ := bcell hb1
  have hz1 := hb1.size
  (try simp at hz1)
  have hi1 : HIn w1 p b l (w.heap.size + 1 + 1 + 1) a ss := by simpa using hi1
  have hb01 : Below w.heap.size w w1 := by (repeat (first | exact Below.refl _ _ | (with_reducible assumption) | refine Below.drew ?_ | refine Below.drewN' ?_ _ | refine Below.alloc ?_ (by first | omega | (simp; done) | (simp; omega)) _ | refine Below.setCell ?_ (by first | omega | (simp; done) | (simp; omega)) _ | refine Below.then ?_ hb9 (by first | omega | (simp; done) | (simp; omega)) | refine Below.then ?_ hb8 (by first | omega | (simp; done) | (simp; omega)) | refine Below.then ?_ hb7 (by first | omega | (simp; done) | (simp; omega)) | refine Below.then ?_ hb6 (by first | omega | (simp; done) | (simp; omega)) | refine Below.then ?_ hb5 (by first | omega | (simp; done) | (simp; omega)) | refine Below.then ?_ hb4 (by first | omega | (simp; done) | (simp; omega)) | refine Below.then ?_ hb3 (by first | omega | (simp; done) | (simp; omega)) | refine Below.then ?_ hb2 (by first | omega | (simp; done) | (simp; omega)) | refine Below.then ?_ hb1 (by first | omega | (simp; done) | (simp; omega))))
  have e0 := hc1 (w.heap.size + 1 + 1) 0 (by first | omega | (simp; done) | (simp; omega)); simp [go_sem] at e0
  have x0 := hc1 (w.heap.size + 1) 0 (by first | omega | (simp; done) | (simp; omega)); simp [go_sem] at x0
  have x1 := hc1 (w.heap.size + 1) 1 (by first | omega | (simp; done) | (simp; omega)); simp [go_sem] at x1
  have x2 := hc1 (w.heap.size + 1) 2 (by first | omega | (simp; done) | (simp; omega)); simp [go_sem] at x2
  have x3 := hc1 (w.heap.size + 1) 3 (by first | omega | (simp; done) | (simp; omega)); simp [go_sem] at x3
  have x4 := hc1 (w.heap.size + 1) 4 (by first | omega | (simp; done) | (simp; omega)); simp [go_sem] at x4
  have p0 := hc1 (w.heap.size) 0 (by first | omega | (simp; done) | (simp; omega)); simp [go_sem] at p0
  have p1 := hc1 (w.heap.size) 1 (by first | omega | (simp; done) | (simp; omega)); simp [go_sem] at p1
  have p2 := hc1 (w.heap.size) 2 (by first | omega | (simp; done) | (simp; omega)); simp [go_sem] at p2
  have z0 := hf1 (w.heap.size + 1 + 1) 0 (by first | omega | (simp; done) | (simp; omega)); simp [go_sem] at z0
  clear hc1 hf1
  have la : w.heap.size < w1.heap.size := by first | omega | (simp; done) | (simp; omega)
  have lb : w.heap.size + 1 < w1.heap.size := by first | omega | (simp; done) | (simp; omega)
  have lc : w.heap.size + 1 + 1 < w1.heap.size := by first | omega | (simp; done) | (simp; omega)
  go_wp2_with fail
  refine (MK.out _).mono ?_
  rintro e2 w2 ⟨rfl, hb2⟩
  obtain ⟨hc2, hf2⟩ := bcell hb2
  have hz2 := hb2.size
  (try simp at hz2)
  have kc2 := fun B o (hB : B < w1.heap.size) => (hc2 B o (by simp; omega)).trans (((Below.refl w1.heap.size w1).alloc (Nat.le_refl _) _).cell (p := ⟨B, o, none⟩) hB)
  have kf2 := fun B o (hB : B < w1.heap.size) => (hf2 B o (by simp; omega)).trans (((Below.refl w1.heap.size w1).alloc (Nat.le_refl _) _).frozen (p := ⟨B, o, none⟩) hB)
  have a0 := hc2 w1.heap.size 0 (by first | omega | (simp; done) | (simp; omega)); simp [go_sem] at a0
  have a1 := hc2 w1.heap.size 1 (by first | omega | (simp; done) | (simp; omega)); simp [go_sem] at a1
  have a2 := hc2 w1.heap.size 2 (by first | omega | (simp; done) | (simp; omega)); simp [go_sem] at a2
  have a3 := hc2 w1.heap.size 3 (by first | omega | (simp; done) | (simp; omega)); simp [go_sem] at a3
  replace e0 := (kc2 (w.heap.size + 1 + 1) 0 (by omega)).trans e0
  replace x0 := (kc2 (w.heap.size + 1) 0 (by omega)).trans x0
  replace x1 := (kc2 (w.heap.size + 1) 1 (by omega)).trans x1
  replace x2 := (kc2 (w.heap.size + 1) 2 (by omega)).trans x2
  replace x3 := (kc2 (w.heap.size + 1) 3 (by omega)).trans x3
  replace x4 := (kc2 (w.heap.size + 1) 4 (by omega)).trans x4
  replace p0 := (kc2 (w.heap.size) 0 (by omega)).trans p0
  replace p1 := (kc2 (w.heap.size) 1 (by omega)).trans p1
  replace p2 := (kc2 (w.heap.size) 2 (by omega)).trans p2
  replace z0 := (kf2 (w.heap.size + 1 + 1) 0 (by omega)).trans z0
  have hb12 : Below w1.heap.size w1 w2 := ((Below.refl _ _).alloc (Nat.le_refl _) _).trans (hb2.mono (by simp))
  have hi2 := hi1.below hb12
  have hb02 : Below w.heap.size w w2 := hb01.trans (hb12.mono (by omega))
  clear kc2 kf2 hc2 hf2 hb2
  go_wp2_with fail
  refine (HM.out 2 _).mono ?_
  rintro e3 w3 ⟨rfl, hb3⟩
  obtain ⟨hc3, hf3⟩ := bcell hb3
  have hz3 := hb3.size
  (try simp at hz3)
  replace e0 := (hc3 (w.heap.size + 1 + 1) 0 (by omega)).trans e0
  replace x0 := (hc3 (w.heap.size + 1) 0 (by omega)).trans x0
  replace x1 := (hc3 (w.heap.size + 1) 1 (by omega)).trans x1
  replace x2 := (hc3 (w.heap.size + 1) 2 (by omega)).trans x2
  replace x3 := (hc3 (w.heap.size + 1) 3 (by omega)).trans x3
  replace x4 := (hc3 (w.heap.size + 1) 4 (by omega)).trans x4
  replace p0 := (hc3 (w.heap.size) 0 (by omega)).trans p0
  replace p1 := (hc3 (w.heap.size) 1 (by omega)).trans p1
  replace p2 := (hc3 (w.heap.size) 2 (by omega)).trans p2
  replace a0 := (hc3 (w1.heap.size) 0 (by omega)).trans a0
  replace a1 := (hc3 (w1.heap.size) 1 (by omega)).trans a1
  replace a2 := (hc3 (w1.heap.size) 2 (by omega)).trans a2
  replace a3 := (hc3 (w1.heap.size) 3 (by omega)).trans a3
  replace z0 := (hf3 (w.heap.size + 1 + 1) 0 (by omega)).trans z0
  have hi3 := hi2.below hb3
  have hb03 : Below w.heap.size w w3 := hb02.trans (hb3.mono (by omega))
  clear hc3 hf3
  go_wp2_with fail
  refine (SZ.out _ hi3.sh).mono ?_
  rintro e4 w4 ⟨rfl, hb4⟩
  obtain ⟨hc4, hf4⟩ := bcell hb4
  have hz4 := hb4.size
  (try simp at hz4)
  replace e0 := (hc4 (w.heap.size + 1 + 1) 0 (by omega)).trans e0
  replace x0 := (hc4 (w.heap.size + 1) 0 (by omega)).trans x0
  replace x1 := (hc4 (w.heap.size + 1) 1 (by omega)).trans x1
  replace x2 := (hc4 (w.heap.size + 1) 2 (by omega)).trans x2
  replace x3 := (hc4 (w.heap.size + 1) 3 (by omega)).trans x3
  replace x4 := (hc4 (w.heap.size + 1) 4 (by omega)).trans x4
  replace p0 := (hc4 (w.heap.size) 0 (by omega)).trans p0
  replace p1 := (hc4 (w.heap.size) 1 (by omega)).trans p1
  replace p2 := (hc4 (w.heap.size) 2 (by omega)).trans p2
  replace a0 := (hc4 (w1.heap.size) 0 (by omega)).trans a0
  replace a1 := (hc4 (w1.heap.size) 1 (by omega)).trans a1
  replace a2 := (hc4 (w1.heap.size) 2 (by omega)).trans a2
  replace a3 := (hc4 (w1.heap.size) 3 (by omega)).trans a3
  replace z0 := (hf4 (w.heap.size + 1 + 1) 0 (by omega)).trans z0
  have hi4 := hi3.below hb4
  have hb04 : Below w.heap.size w w4 := hb03.trans (hb4.mono (by omega))
  clear hc4 hf4
  go_wp2_with fail
  refine (M2.out _).mono ?_
  rintro e5 w5 ⟨rfl, hb5⟩
  obtain ⟨hc5, hf5⟩ := bcell hb5
  have hz5 := hb5.size
  (try simp at hz5)
  replace e0 := (hc5 (w.heap.size + 1 + 1) 0 (by omega)).trans e0
  replace z0 := (hf5 (w.heap.size + 1 + 1) 0 (by omega)).trans z0
  go_wp2
  refine leaves_cons (f := 29) (args := #[.pointer (some ⟨w.heap.size + 1 + 1, 0, none⟩)]) (by simp) (by simp [go_sem]) ?_
  refine (caught_up (w.heap.size + 1 + 1) 0 2 [] w5 e0 z0).mono ?_
  rintro e u' w'' ⟨rfl, rfl, rfl⟩
  have e1 := cell_put w5 ⟨w.heap.size + 1 + 1, 0, none⟩ (.int .i64 2) (by rw [e0]; rfl)
  simp [Leaves, settle, results, Try.results19, go_sem, e1]
  (repeat (first | exact Below.refl _ _ | (with_reducible assumption) | refine Below.drew ?_ | refine Below.drewN' ?_ _ | refine Below.alloc ?_ (by first | omega | (simp; done) | (simp; omega)) _ | refine Below.setCell ?_ (by first | omega | (simp; done) | (simp; omega)) _ | refine Below.then ?_ hb9 (by first | omega | (simp; done) | (simp; omega)) | refine Below.then ?_ hb8 (by first | omega | (simp; done) | (simp; omega)) | refine Below.then ?_ hb7 (by first | omega | (simp; done) | (simp; omega)) | refine Below.then ?_ hb6 (by first | omega | (simp; done) | (simp; omega)) | refine Below.then ?_ hb5 (by first | omega | (simp; done) | (simp; omega)) | refine Below.then ?_ hb4 (by first | omega | (simp; done) | (simp; omega)) | refine Below.then ?_ hb3 (by first | omega | (simp; done) | (simp; omega)) | refine Below.then ?_ hb2 (by first | omega | (simp; done) | (simp; omega)) | refine Below.then ?_ hb1 (by first | omega | (simp; done) | (simp; omega))))

set_option maxRecDepth 100000 in
set_option maxHeartbeats 1600000 in
theorem put_many (p b : Nat) (l : List Int) (t sp : Int) (a : Option Addr) (c : Nat) (ss : List ByteArray) (at_ s m link : Int) (fa : Option Addr) (fc : Nat) (fl : List Int) (hr : rightB s m = true) (he : ofE ss s = 0) (nn : Int) (hsn : sizeN ss s = nn) (hnr : 2 ≤ nn ∧ nn ≤ 10) (hk : (fl.length : Int) ≠ nn - 2) (hfl : fl.length ≤ maxLen) (w : World) (h : PIn w p b l t sp a ss) :
    Calls Try.prog 19 #[.pointer (some ⟨p, 0, none⟩), .agg #[.int .i64 t, .int .i64 sp, .slice a ss.length c], objV at_ s m link fa fl.length fc] w fun e w' => e = .returned (.int .i64 2) ∧ Below w.heap.size w w' := by
  have H := Lib.hid (fun W (h : PIn W p b l t sp a ss) => h.of c W)
  obtain ⟨b1, b2, b3, b4, _⟩ := plan_ok h.plan
  have hl4 := h.ar.len
  have hll := h.len
  have hnn := h.n
  have HP := Lib.hid h
  have MK := Lib.hid (fun W => make_calls s m W)
  unfold heapV at H
  have e1 : hMakeE s m = 0 := by unfold hMakeE; rw [hr]; rfl
  have e2 : hMakeW s m = hWord s m := by unfold hMakeW; rw [hr]; rfl
  rw [e1, e2] at MK
  have HM := Lib.hid (fun n W => must_ok n W)
  have hwr := hword_rng hr
  have SZ := fun W h => hSize_calls (hWord s m) hwr.1 hwr.2 a c ss hnn W h
  rw [hword_size hr, hword_err hr] at SZ
  rw [he, hsn] at SZ
  have g1 : ((fl.length : Int) == nn - 2) = false := beq_eq_false_iff_ne.2 hk
  have g2 : IntKind.i64.wrap (nn - 2) = nn - 2 := IntWalk.i64_in _ (by omega)
  have SZ := Lib.hid SZ
  have M2 := Lib.hid (fun W => must_no 2 W)
  clear h
  unfold objV
  go_enter_defers Try.func19, Try.ntmps19
  go_wp2_with fail
  refine (H.out _ (((HP.out.alloc _).alloc _).alloc _)).mono ?_
  rintro e1 w1 ⟨rfl, hi1, hb1⟩
  obtain ⟨hc1, hf1⟩ := bcell hb1
  have hz1 := hb1.size
  (try simp at hz1)
  have hi1 : HIn w1 p b l (w.heap.size + 1 + 1 + 1) a ss := by simpa using hi1
  have hb01 : Below w.heap.size w w1 := by (repeat (first | exact Below.refl _ _ | (with_reducible assumption) | refine Below.drew ?_ | refine Below.drewN' ?_ _ | refine Below.alloc ?_ (by first | omega | (simp; done) | (simp; omega)) _ | refine Below.setCell ?_ (by first | omega | (simp; done) | (simp; omega)) _ | refine Below.then ?_ hb9 (by first | omega | (simp; done) | (simp; omega)) | refine Below.then ?_ hb8 (by first | omega | (simp; done) | (simp; omega)) | refine Below.then ?_ hb7 (by first | omega | (simp; done) | (simp; omega)) | refine Below.then ?_ hb6 (by first | omega | (simp; done) | (simp; omega)) | refine Below.then ?_ hb5 (by first | omega | (simp; done) | (simp; omega)) | refine Below.then ?_ hb4 (by first | omega | (simp; done) | (simp; omega)) | refine Below.then ?_ hb3 (by first | omega | (simp; done) | (simp; omega)) | refine Below.then ?_ hb2 (by first | omega | (simp; done) | (simp; omega)) | refine Below.then ?_ hb1 (by first | omega | (simp; done) | (simp; omega))))
  have e0 := hc1 (w.heap.size + 1 + 1) 0 (by first | omega | (simp; done) | (simp; omega)); simp [go_sem] at e0
  have x0 := hc1 (w.heap.size + 1) 0 (by first | omega | (simp; done) | (simp; omega)); simp [go_sem] at x0
  have x1 := hc1 (w.heap.size + 1) 1 (by first | omega | (simp; done) | (simp; omega)); simp [go_sem] at x1
  have x2 := hc1 (w.heap.size + 1) 2 (by first | omega | (simp; done) | (simp; omega)); simp [go_sem] at x2
  have x3 := hc1 (w.heap.size + 1) 3 (by first | omega | (simp; done) | (simp; omega)); simp [go_sem] at x3
  have x4 := hc1 (w.heap.size + 1) 4 (by first | omega | (simp; done) | (simp; omega)); simp [go_sem] at x4
  have p0 := hc1 (w.heap.size) 0 (by first | omega | (simp; done) | (simp; omega)); simp [go_sem] at p0
  have p1 := hc1 (w.heap.size) 1 (by first | omega | (simp; done) | (simp; omega)); simp [go_sem] at p1
  have p2 := hc1 (w.heap.size) 2 (by first | omega | (simp; done) | (simp; omega)); simp [go_sem] at p2
  have z0 := hf1 (w.heap.size + 1 + 1) 0 (by first | omega | (simp; done) | (simp; omega)); simp [go_sem] at z0
  clear hc1 hf1
  have la : w.heap.size < w1.heap.size := by first | omega | (simp; done) | (simp; omega)
  have lb : w.heap.size + 1 < w1.heap.size := by first | omega | (simp; done) | (simp; omega)
  have lc : w.heap.size + 1 + 1 < w1.heap.size := by first | omega | (simp; done) | (simp; omega)
  go_wp2_with fail
  refine (MK.out _).mono ?_
  rintro e2 w2 ⟨rfl, hb2⟩
  obtain ⟨hc2, hf2⟩ := bcell hb2
  have hz2 := hb2.size
  (try simp at hz2)
  have kc2 := fun B o (hB : B < w1.heap.size) => (hc2 B o (by simp; omega)).trans (((Below.refl w1.heap.size w1).alloc (Nat.le_refl _) _).cell (p := ⟨B, o, none⟩) hB)
  have kf2 := fun B o (hB : B < w1.heap.size) => (hf2 B o (by simp; omega)).trans (((Below.refl w1.heap.size w1).alloc (Nat.le_refl _) _).frozen (p := ⟨B, o, none⟩) hB)
  have a0 := hc2 w1.heap.size 0 (by first | omega | (simp; done) | (simp; omega)); simp [go_sem] at a0
  have a1 := hc2 w1.heap.size 1 (by first | omega | (simp; done) | (simp; omega)); simp [go_sem] at a1
  have a2 := hc2 w1.heap.size 2 (by first | omega | (simp; done) | (simp; omega)); simp [go_sem] at a2
  have a3 := hc2 w1.heap.size 3 (by first | omega | (simp; done) | (simp; omega)); simp [go_sem] at a3
  replace e0 := (kc2 (w.heap.size + 1 + 1) 0 (by omega)).trans e0
  replace x0 := (kc2 (w.heap.size + 1) 0 (by omega)).trans x0
  replace x1 := (kc2 (w.heap.size + 1) 1 (by omega)).trans x1
  replace x2 := (kc2 (w.heap.size + 1) 2 (by omega)).trans x2
  replace x3 := (kc2 (w.heap.size + 1) 3 (by omega)).trans x3
  replace x4 := (kc2 (w.heap.size + 1) 4 (by omega)).trans x4
  replace p0 := (kc2 (w.heap.size) 0 (by omega)).trans p0
  replace p1 := (kc2 (w.heap.size) 1 (by omega)).trans p1
  replace p2 := (kc2 (w.heap.size) 2 (by omega)).trans p2
  replace z0 := (kf2 (w.heap.size + 1 + 1) 0 (by omega)).trans z0
  have hb12 : Below w1.heap.size w1 w2 := ((Below.refl _ _).alloc (Nat.le_refl _) _).trans (hb2.mono (by simp))
  have hi2 := hi1.below hb12
  have hb02 : Below w.heap.size w w2 := hb01.trans (hb12.mono (by omega))
  clear kc2 kf2 hc2 hf2 hb2
  go_wp2_with fail
  refine (HM.out 2 _).mono ?_
  rintro e3 w3 ⟨rfl, hb3⟩
  obtain ⟨hc3, hf3⟩ := bcell hb3
  have hz3 := hb3.size
  (try simp at hz3)
  replace e0 := (hc3 (w.heap.size + 1 + 1) 0 (by omega)).trans e0
  replace x0 := (hc3 (w.heap.size + 1) 0 (by omega)).trans x0
  replace x1 := (hc3 (w.heap.size + 1) 1 (by omega)).trans x1
  replace x2 := (hc3 (w.heap.size + 1) 2 (by omega)).trans x2
  replace x3 := (hc3 (w.heap.size + 1) 3 (by omega)).trans x3
  replace x4 := (hc3 (w.heap.size + 1) 4 (by omega)).trans x4
  replace p0 := (hc3 (w.heap.size) 0 (by omega)).trans p0
  replace p1 := (hc3 (w.heap.size) 1 (by omega)).trans p1
  replace p2 := (hc3 (w.heap.size) 2 (by omega)).trans p2
  replace a0 := (hc3 (w1.heap.size) 0 (by omega)).trans a0
  replace a1 := (hc3 (w1.heap.size) 1 (by omega)).trans a1
  replace a2 := (hc3 (w1.heap.size) 2 (by omega)).trans a2
  replace a3 := (hc3 (w1.heap.size) 3 (by omega)).trans a3
  replace z0 := (hf3 (w.heap.size + 1 + 1) 0 (by omega)).trans z0
  have hi3 := hi2.below hb3
  have hb03 : Below w.heap.size w w3 := hb02.trans (hb3.mono (by omega))
  clear hc3 hf3
  go_wp2_with fail
  refine (SZ.out _ hi3.sh).mono ?_
  rintro e4 w4 ⟨rfl, hb4⟩
  obtain ⟨hc4, hf4⟩ := bcell hb4
  have hz4 := hb4.size
  (try simp at hz4)
  replace e0 := (hc4 (w.heap.size + 1 + 1) 0 (by omega)).trans e0
  replace x0 := (hc4 (w.heap.size + 1) 0 (by omega)).trans x0
  replace x1 := (hc4 (w.heap.size + 1) 1 (by omega)).trans x1
  replace x2 := (hc4 (w.heap.size + 1) 2 (by omega)).trans x2
  replace x3 := (hc4 (w.heap.size + 1) 3 (by omega)).trans x3
  replace x4 := (hc4 (w.heap.size + 1) 4 (by omega)).trans x4
  replace p0 := (hc4 (w.heap.size) 0 (by omega)).trans p0
  replace p1 := (hc4 (w.heap.size) 1 (by omega)).trans p1
  replace p2 := (hc4 (w.heap.size) 2 (by omega)).trans p2
  replace a0 := (hc4 (w1.heap.size) 0 (by omega)).trans a0
  replace a1 := (hc4 (w1.heap.size) 1 (by omega)).trans a1
  replace a2 := (hc4 (w1.heap.size) 2 (by omega)).trans a2
  replace a3 := (hc4 (w1.heap.size) 3 (by omega)).trans a3
  replace z0 := (hf4 (w.heap.size + 1 + 1) 0 (by omega)).trans z0
  have hi4 := hi3.below hb4
  have hb04 : Below w.heap.size w w4 := hb03.trans (hb4.mono (by omega))
  clear hc4 hf4
  go_wp2_with fail
  refine (M2.out _).mono ?_
  rintro e5 w5 ⟨rfl, hb5⟩
  obtain ⟨hc5, hf5⟩ := bcell hb5
  have hz5 := hb5.size
  (try simp at hz5)
  replace e0 := (hc5 (w.heap.size + 1 + 1) 0 (by omega)).trans e0
  replace z0 := (hf5 (w.heap.size + 1 + 1) 0 (by omega)).trans z0
  go_wp2
  refine leaves_cons (f := 29) (args := #[.pointer (some ⟨w.heap.size + 1 + 1, 0, none⟩)]) (by simp) (by simp [go_sem]) ?_
  refine (caught_up (w.heap.size + 1 + 1) 0 2 [] w5 e0 z0).mono ?_
  rintro e u' w'' ⟨rfl, rfl, rfl⟩
  have e1 := cell_put w5 ⟨w.heap.size + 1 + 1, 0, none⟩ (.int .i64 2) (by rw [e0]; rfl)
  simp [Leaves, settle, results, Try.results19, go_sem, e1]
  (repeat (first | exact Below.refl _ _ | (with_reducible assumption) | refine Below.drew ?_ | refine Below.drewN' ?_ _ | refine Below.alloc ?_ (by first | omega | (simp; done) | (simp; omega)) _ | refine Below.setCell ?_ (by first | omega | (simp; done) | (simp; omega)) _ | refine Below.then ?_ hb9 (by first | omega | (simp; done) | (simp; omega)) | refine Below.then ?_ hb8 (by first | omega | (simp; done) | (simp; omega)) | refine Below.then ?_ hb7 (by first | omega | (simp; done) | (simp; omega)) | refine Below.then ?_ hb6 (by first | omega | (simp; done) | (simp; omega)) | refine Below.then ?_ hb5 (by first | omega | (simp; done) | (simp; omega)) | refine Below.then ?_ hb4 (by first | omega | (simp; done) | (simp; omega)) | refine Below.then ?_ hb3 (by first | omega | (simp; done) | (simp; omega)) | refine Below.then ?_ hb2 (by first | omega | (simp; done) | (simp; omega)) | refine Below.then ?_ hb1 (by first | omega | (simp; done) | (simp; omega))))

set_option maxRecDepth 100000 in
set_option maxHeartbeats 1600000 in
theorem put_in (p b : Nat) (l : List Int) (t sp : Int) (a : Option Addr) (c : Nat) (ss : List ByteArray) (at_ s m link : Int) (fa : Option Addr) (fc : Nat) (fl : List Int) (hr : rightB s m = true) (he : ofE ss s = 0) (nn : Int) (hsn : sizeN ss s = nn) (hnr : 2 ≤ nn ∧ nn ≤ 10) (hk : (fl.length : Int) = nn - 2) (hfl : fl.length ≤ maxLen) (ho : at_ < 3 + 2 * t ∨ szP t sp ≤ at_) (w : World) (h : PIn w p b l t sp a ss) :
    Calls Try.prog 19 #[.pointer (some ⟨p, 0, none⟩), .agg #[.int .i64 t, .int .i64 sp, .slice a ss.length c], objV at_ s m link fa fl.length fc] w fun e w' => e = .returned (.int .i64 4) ∧ Below w.heap.size w w' := by
  have H := Lib.hid (fun W (h : PIn W p b l t sp a ss) => h.of c W)
  obtain ⟨b1, b2, b3, b4, _⟩ := plan_ok h.plan
  have hl4 := h.ar.len
  have hll := h.len
  have hnn := h.n
  have HP := Lib.hid h
  have MK := Lib.hid (fun W => make_calls s m W)
  unfold heapV at H
  have e1 : hMakeE s m = 0 := by unfold hMakeE; rw [hr]; rfl
  have e2 : hMakeW s m = hWord s m := by unfold hMakeW; rw [hr]; rfl
  rw [e1, e2] at MK
  have HM := Lib.hid (fun n W => must_ok n W)
  have hwr := hword_rng hr
  have SZ := fun W h => hSize_calls (hWord s m) hwr.1 hwr.2 a c ss hnn W h
  rw [hword_size hr, hword_err hr] at SZ
  rw [he, hsn] at SZ
  have g1 : ((fl.length : Int) == nn - 2) = true := beq_iff_eq.2 hk
  have g2 : IntKind.i64.wrap (nn - 2) = nn - 2 := IntWalk.i64_in _ (by omega)
  have SZ := Lib.hid SZ
  have IN := fun B W hh => inside_no t sp a c ss B at_ hnn h.plan ho W hh
  unfold heapV at IN
  have IN := Lib.hid IN
  clear h
  unfold objV
  go_enter_defers Try.func19, Try.ntmps19
  go_wp2_with fail
  refine (H.out _ (((HP.out.alloc _).alloc _).alloc _)).mono ?_
  rintro e1 w1 ⟨rfl, hi1, hb1⟩
  obtain ⟨hc1, hf1⟩ := bcell hb1
  have hz1 := hb1.size
  (try simp at hz1)
  have hi1 : HIn w1 p b l (w.heap.size + 1 + 1 + 1) a ss := by simpa using hi1
  have hb01 : Below w.heap.size w w1 := by (repeat (first | exact Below.refl _ _ | (with_reducible assumption) | refine Below.drew ?_ | refine Below.drewN' ?_ _ | refine Below.alloc ?_ (by first | omega | (simp; done) | (simp; omega)) _ | refine Below.setCell ?_ (by first | omega | (simp; done) | (simp; omega)) _ | refine Below.then ?_ hb9 (by first | omega | (simp; done) | (simp; omega)) | refine Below.then ?_ hb8 (by first | omega | (simp; done) | (simp; omega)) | refine Below.then ?_ hb7 (by first | omega | (simp; done) | (simp; omega)) | refine Below.then ?_ hb6 (by first | omega | (simp; done) | (simp; omega)) | refine Below.then ?_ hb5 (by first | omega | (simp; done) | (simp; omega)) | refine Below.then ?_ hb4 (by first | omega | (simp; done) | (simp; omega)) | refine Below.then ?_ hb3 (by first | omega | (simp; done) | (simp; omega)) | refine Below.then ?_ hb2 (by first | omega | (simp; done) | (simp; omega)) | refine Below.then ?_ hb1 (by first | omega | (simp; done) | (simp; omega))))
  have e0 := hc1 (w.heap.size + 1 + 1) 0 (by first | omega | (simp; done) | (simp; omega)); simp [go_sem] at e0
  have x0 := hc1 (w.heap.size + 1) 0 (by first | omega | (simp; done) | (simp; omega)); simp [go_sem] at x0
  have x1 := hc1 (w.heap.size + 1) 1 (by first | omega | (simp; done) | (simp; omega)); simp [go_sem] at x1
  have x2 := hc1 (w.heap.size + 1) 2 (by first | omega | (simp; done) | (simp; omega)); simp [go_sem] at x2
  have x3 := hc1 (w.heap.size + 1) 3 (by first | omega | (simp; done) | (simp; omega)); simp [go_sem] at x3
  have x4 := hc1 (w.heap.size + 1) 4 (by first | omega | (simp; done) | (simp; omega)); simp [go_sem] at x4
  have p0 := hc1 (w.heap.size) 0 (by first | omega | (simp; done) | (simp; omega)); simp [go_sem] at p0
  have p1 := hc1 (w.heap.size) 1 (by first | omega | (simp; done) | (simp; omega)); simp [go_sem] at p1
  have p2 := hc1 (w.heap.size) 2 (by first | omega | (simp; done) | (simp; omega)); simp [go_sem] at p2
  have z0 := hf1 (w.heap.size + 1 + 1) 0 (by first | omega | (simp; done) | (simp; omega)); simp [go_sem] at z0
  clear hc1 hf1
  have la : w.heap.size < w1.heap.size := by first | omega | (simp; done) | (simp; omega)
  have lb : w.heap.size + 1 < w1.heap.size := by first | omega | (simp; done) | (simp; omega)
  have lc : w.heap.size + 1 + 1 < w1.heap.size := by first | omega | (simp; done) | (simp; omega)
  go_wp2_with fail
  refine (MK.out _).mono ?_
  rintro e2 w2 ⟨rfl, hb2⟩
  obtain ⟨hc2, hf2⟩ := bcell hb2
  have hz2 := hb2.size
  (try simp at hz2)
  have kc2 := fun B o (hB : B < w1.heap.size) => (hc2 B o (by simp; omega)).trans (((Below.refl w1.heap.size w1).alloc (Nat.le_refl _) _).cell (p := ⟨B, o, none⟩) hB)
  have kf2 := fun B o (hB : B < w1.heap.size) => (hf2 B o (by simp; omega)).trans (((Below.refl w1.heap.size w1).alloc (Nat.le_refl _) _).frozen (p := ⟨B, o, none⟩) hB)
  have a0 := hc2 w1.heap.size 0 (by first | omega | (simp; done) | (simp; omega)); simp [go_sem] at a0
  have a1 := hc2 w1.heap.size 1 (by first | omega | (simp; done) | (simp; omega)); simp [go_sem] at a1
  have a2 := hc2 w1.heap.size 2 (by first | omega | (simp; done) | (simp; omega)); simp [go_sem] at a2
  have a3 := hc2 w1.heap.size 3 (by first | omega | (simp; done) | (simp; omega)); simp [go_sem] at a3
  replace e0 := (kc2 (w.heap.size + 1 + 1) 0 (by omega)).trans e0
  replace x0 := (kc2 (w.heap.size + 1) 0 (by omega)).trans x0
  replace x1 := (kc2 (w.heap.size + 1) 1 (by omega)).trans x1
  replace x2 := (kc2 (w.heap.size + 1) 2 (by omega)).trans x2
  replace x3 := (kc2 (w.heap.size + 1) 3 (by omega)).trans x3
  replace x4 := (kc2 (w.heap.size + 1) 4 (by omega)).trans x4
  replace p0 := (kc2 (w.heap.size) 0 (by omega)).trans p0
  replace p1 := (kc2 (w.heap.size) 1 (by omega)).trans p1
  replace p2 := (kc2 (w.heap.size) 2 (by omega)).trans p2
  replace z0 := (kf2 (w.heap.size + 1 + 1) 0 (by omega)).trans z0
  have hb12 : Below w1.heap.size w1 w2 := ((Below.refl _ _).alloc (Nat.le_refl _) _).trans (hb2.mono (by simp))
  have hi2 := hi1.below hb12
  have hb02 : Below w.heap.size w w2 := hb01.trans (hb12.mono (by omega))
  clear kc2 kf2 hc2 hf2 hb2
  go_wp2_with fail
  refine (HM.out 2 _).mono ?_
  rintro e3 w3 ⟨rfl, hb3⟩
  obtain ⟨hc3, hf3⟩ := bcell hb3
  have hz3 := hb3.size
  (try simp at hz3)
  replace e0 := (hc3 (w.heap.size + 1 + 1) 0 (by omega)).trans e0
  replace x0 := (hc3 (w.heap.size + 1) 0 (by omega)).trans x0
  replace x1 := (hc3 (w.heap.size + 1) 1 (by omega)).trans x1
  replace x2 := (hc3 (w.heap.size + 1) 2 (by omega)).trans x2
  replace x3 := (hc3 (w.heap.size + 1) 3 (by omega)).trans x3
  replace x4 := (hc3 (w.heap.size + 1) 4 (by omega)).trans x4
  replace p0 := (hc3 (w.heap.size) 0 (by omega)).trans p0
  replace p1 := (hc3 (w.heap.size) 1 (by omega)).trans p1
  replace p2 := (hc3 (w.heap.size) 2 (by omega)).trans p2
  replace a0 := (hc3 (w1.heap.size) 0 (by omega)).trans a0
  replace a1 := (hc3 (w1.heap.size) 1 (by omega)).trans a1
  replace a2 := (hc3 (w1.heap.size) 2 (by omega)).trans a2
  replace a3 := (hc3 (w1.heap.size) 3 (by omega)).trans a3
  replace z0 := (hf3 (w.heap.size + 1 + 1) 0 (by omega)).trans z0
  have hi3 := hi2.below hb3
  have hb03 : Below w.heap.size w w3 := hb02.trans (hb3.mono (by omega))
  clear hc3 hf3
  go_wp2_with fail
  refine (SZ.out _ hi3.sh).mono ?_
  rintro e4 w4 ⟨rfl, hb4⟩
  obtain ⟨hc4, hf4⟩ := bcell hb4
  have hz4 := hb4.size
  (try simp at hz4)
  replace e0 := (hc4 (w.heap.size + 1 + 1) 0 (by omega)).trans e0
  replace x0 := (hc4 (w.heap.size + 1) 0 (by omega)).trans x0
  replace x1 := (hc4 (w.heap.size + 1) 1 (by omega)).trans x1
  replace x2 := (hc4 (w.heap.size + 1) 2 (by omega)).trans x2
  replace x3 := (hc4 (w.heap.size + 1) 3 (by omega)).trans x3
  replace x4 := (hc4 (w.heap.size + 1) 4 (by omega)).trans x4
  replace p0 := (hc4 (w.heap.size) 0 (by omega)).trans p0
  replace p1 := (hc4 (w.heap.size) 1 (by omega)).trans p1
  replace p2 := (hc4 (w.heap.size) 2 (by omega)).trans p2
  replace a0 := (hc4 (w1.heap.size) 0 (by omega)).trans a0
  replace a1 := (hc4 (w1.heap.size) 1 (by omega)).trans a1
  replace a2 := (hc4 (w1.heap.size) 2 (by omega)).trans a2
  replace a3 := (hc4 (w1.heap.size) 3 (by omega)).trans a3
  replace z0 := (hf4 (w.heap.size + 1 + 1) 0 (by omega)).trans z0
  have hi4 := hi3.below hb4
  have hb04 : Below w.heap.size w w4 := hb03.trans (hb4.mono (by omega))
  clear hc4 hf4
  go_wp2_with fail
  refine (HM.out 2 _).mono ?_
  rintro e5 w5 ⟨rfl, hb5⟩
  obtain ⟨hc5, hf5⟩ := bcell hb5
  have hz5 := hb5.size
  (try simp at hz5)
  replace e0 := (hc5 (w.heap.size + 1 + 1) 0 (by omega)).trans e0
  replace x0 := (hc5 (w.heap.size + 1) 0 (by omega)).trans x0
  replace x1 := (hc5 (w.heap.size + 1) 1 (by omega)).trans x1
  replace x2 := (hc5 (w.heap.size + 1) 2 (by omega)).trans x2
  replace x3 := (hc5 (w.heap.size + 1) 3 (by omega)).trans x3
  replace x4 := (hc5 (w.heap.size + 1) 4 (by omega)).trans x4
  replace p0 := (hc5 (w.heap.size) 0 (by omega)).trans p0
  replace p1 := (hc5 (w.heap.size) 1 (by omega)).trans p1
  replace p2 := (hc5 (w.heap.size) 2 (by omega)).trans p2
  replace a0 := (hc5 (w1.heap.size) 0 (by omega)).trans a0
  replace a1 := (hc5 (w1.heap.size) 1 (by omega)).trans a1
  replace a2 := (hc5 (w1.heap.size) 2 (by omega)).trans a2
  replace a3 := (hc5 (w1.heap.size) 3 (by omega)).trans a3
  replace z0 := (hf5 (w.heap.size + 1 + 1) 0 (by omega)).trans z0
  have hi5 := hi4.below hb5
  have hb05 : Below w.heap.size w w5 := hb04.trans (hb5.mono (by omega))
  clear hc5 hf5
  go_wp2_with fail
  have keepS := Lib.hid (show ∀ A B' : World, (A.cell? ⟨w1.heap.size, 0, none⟩ = some (.int .i64 t) ∧ A.cell? ⟨w1.heap.size, 1, none⟩ = some (.int .i64 sp) ∧ A.cell? ⟨w1.heap.size, 2, none⟩ = some (.slice a ss.length c) ∧ A.cell? ⟨w1.heap.size, 3, none⟩ = some (.func (.func 56) #[] #[.pointer (some ⟨w.heap.size + 1 + 1 + 1, 0, none⟩)]) ∧ A.cell? ⟨w.heap.size + 1, 0, none⟩ = some (.int .i64 at_)) → Below w5.heap.size A B' → (B'.cell? ⟨w1.heap.size, 0, none⟩ = some (.int .i64 t) ∧ B'.cell? ⟨w1.heap.size, 1, none⟩ = some (.int .i64 sp) ∧ B'.cell? ⟨w1.heap.size, 2, none⟩ = some (.slice a ss.length c) ∧ B'.cell? ⟨w1.heap.size, 3, none⟩ = some (.func (.func 56) #[] #[.pointer (some ⟨w.heap.size + 1 + 1 + 1, 0, none⟩)]) ∧ B'.cell? ⟨w.heap.size + 1, 0, none⟩ = some (.int .i64 at_)) from fun A B' hc hb => ⟨(hb.cell (p := ⟨w1.heap.size, 0, none⟩) (by show w1.heap.size < _; omega)).trans hc.1, (hb.cell (p := ⟨w1.heap.size, 1, none⟩) (by show w1.heap.size < _; omega)).trans hc.2.1, (hb.cell (p := ⟨w1.heap.size, 2, none⟩) (by show w1.heap.size < _; omega)).trans hc.2.2.1, (hb.cell (p := ⟨w1.heap.size, 3, none⟩) (by show w1.heap.size < _; omega)).trans hc.2.2.2.1, (hb.cell (p := ⟨w.heap.size + 1, 0, none⟩) (by show w.heap.size + 1 < _; omega)).trans hc.2.2.2.2⟩)
  refine wp_region_held_drew (S := fun A => (A.cell? ⟨w1.heap.size, 0, none⟩ = some (.int .i64 t) ∧ A.cell? ⟨w1.heap.size, 1, none⟩ = some (.int .i64 sp) ∧ A.cell? ⟨w1.heap.size, 2, none⟩ = some (.slice a ss.length c) ∧ A.cell? ⟨w1.heap.size, 3, none⟩ = some (.func (.func 56) #[] #[.pointer (some ⟨w.heap.size + 1 + 1 + 1, 0, none⟩)]) ∧ A.cell? ⟨w.heap.size + 1, 0, none⟩ = some (.int .i64 at_))) (by kernel_rfl) ?hS0 (fun hHeld => ?_)
  case hS0 => exact ⟨a0, a1, a2, a3, x0⟩
  (refine wpAnyH_take (i := 0) (oi := ?oiq0) (v := ?vq0) ?hiq0 ?hsq0 ?hfq0 ?hrq0 ?hQq0 ?hyq0 ?hSq0 ?hq0)
  (case hiq0 => rfl)
  (case hsq0 => kernel_rfl)
  (case hfq0 => kernel_rfl)
  (case hrq0 => kernel_rfl)
  (case hQq0 => exact fun _ _ _ h => leaves_congr (by simp [results, Try.results19, go_sem, Act.put, Array.getD_eq_getD_getElem?, Array.getElem?_setIfInBounds]) _ _ _ h)
  (case hSq0 => assumption)
  (case hyq0 => (refine Or.inl ⟨by rfl, ?_⟩; intro W hW; (try dsimp only at hW); go_simp; try with_reducible rfl))
  (try simp only [List.getElem_toArray, List.getElem_cons_succ, List.getElem_cons_zero, Act.put, List.setIfInBounds_toArray, List.set_cons_zero, List.set_cons_succ])
  (refine wpAnyH_take (i := 1) (oi := ?oiq1) (v := ?vq1) ?hiq1 ?hsq1 ?hfq1 ?hrq1 ?hQq1 ?hyq1 ?hSq1 ?hq1)
  (case hiq1 => rfl)
  (case hsq1 => kernel_rfl)
  (case hfq1 => kernel_rfl)
  (case hrq1 => kernel_rfl)
  (case hQq1 => exact fun _ _ _ h => leaves_congr (by simp [results, Try.results19, go_sem, Act.put, Array.getD_eq_getD_getElem?, Array.getElem?_setIfInBounds]) _ _ _ h)
  (case hSq1 => assumption)
  (case hyq1 => (refine Or.inl ⟨by rfl, ?_⟩; intro W hW; (try dsimp only at hW); go_simp; try with_reducible rfl))
  (try simp only [List.getElem_toArray, List.getElem_cons_succ, List.getElem_cons_zero, Act.put, List.setIfInBounds_toArray, List.set_cons_zero, List.set_cons_succ])
  (refine wpAnyH_take (i := 2) (oi := ?oiq2) (v := ?vq2) ?hiq2 ?hsq2 ?hfq2 ?hrq2 ?hQq2 ?hyq2 ?hSq2 ?hq2)
  (case hiq2 => rfl)
  (case hsq2 => kernel_rfl)
  (case hfq2 => kernel_rfl)
  (case hrq2 => kernel_rfl)
  (case hQq2 => exact fun _ _ _ h => leaves_congr (by simp [results, Try.results19, go_sem, Act.put, Array.getD_eq_getD_getElem?, Array.getElem?_setIfInBounds]) _ _ _ h)
  (case hSq2 => assumption)
  (case hyq2 => (refine Or.inl ⟨by rfl, ?_⟩; intro W hW; (try dsimp only at hW); go_simp; try with_reducible rfl))
  (try simp only [List.getElem_toArray, List.getElem_cons_succ, List.getElem_cons_zero, Act.put, List.setIfInBounds_toArray, List.set_cons_zero, List.set_cons_succ])
  (refine wpAnyH_take (i := 3) (oi := ?oiq3) (v := ?vq3) ?hiq3 ?hsq3 ?hfq3 ?hrq3 ?hQq3 ?hyq3 ?hSq3 ?hq3)
  (case hiq3 => rfl)
  (case hsq3 => kernel_rfl)
  (case hfq3 => kernel_rfl)
  (case hrq3 => kernel_rfl)
  (case hQq3 => exact fun _ _ _ h => leaves_congr (by simp [results, Try.results19, go_sem, Act.put, Array.getD_eq_getD_getElem?, Array.getElem?_setIfInBounds]) _ _ _ h)
  (case hSq3 => assumption)
  (case hyq3 => (refine Or.inl ⟨by rfl, ?_⟩; intro W hW; (try dsimp only at hW); go_simp; try with_reducible rfl))
  (try simp only [List.getElem_toArray, List.getElem_cons_succ, List.getElem_cons_zero, Act.put, List.setIfInBounds_toArray, List.set_cons_zero, List.set_cons_succ])
  (refine wpAnyH_take (i := 4) (oi := ?oiq4) (v := ?vq4) ?hiq4 ?hsq4 ?hfq4 ?hrq4 ?hQq4 ?hyq4 ?hSq4 ?hq4)
  (case hiq4 => rfl)
  (case hsq4 => kernel_rfl)
  (case hfq4 => kernel_rfl)
  (case hrq4 => kernel_rfl)
  (case hQq4 => exact fun _ _ _ h => leaves_congr (by simp [results, Try.results19, go_sem, Act.put, Array.getD_eq_getD_getElem?, Array.getElem?_setIfInBounds]) _ _ _ h)
  (case hSq4 => assumption)
  (case hyq4 => (refine Or.inl ⟨by rfl, ?_⟩; intro W hW; (try dsimp only at hW); go_simp; try with_reducible rfl))
  (try simp only [List.getElem_toArray, List.getElem_cons_succ, List.getElem_cons_zero, Act.put, List.setIfInBounds_toArray, List.set_cons_zero, List.set_cons_succ])
  (refine wpAnyH_take (i := 5) (oi := ?oiq5) (v := ?vq5) ?hiq5 ?hsq5 ?hfq5 ?hrq5 ?hQq5 ?hyq5 ?hSq5 ?hq5)
  (case hiq5 => rfl)
  (case hsq5 => kernel_rfl)
  (case hfq5 => kernel_rfl)
  (case hrq5 => kernel_rfl)
  (case hQq5 => exact fun _ _ _ h => leaves_congr (by simp [results, Try.results19, go_sem, Act.put, Array.getD_eq_getD_getElem?, Array.getElem?_setIfInBounds]) _ _ _ h)
  (case hSq5 => assumption)
  (case hyq5 => (refine Or.inl ⟨by rfl, ?_⟩; intro W hW; (try dsimp only at hW); go_simp; try with_reducible rfl))
  (try simp only [List.getElem_toArray, List.getElem_cons_succ, List.getElem_cons_zero, Act.put, List.setIfInBounds_toArray, List.set_cons_zero, List.set_cons_succ])
  (refine wpAnyH_take (i := 6) (oi := ?oiq6) (v := ?vq6) ?hiq6 ?hsq6 ?hfq6 ?hrq6 ?hQq6 ?hyq6 ?hSq6 ?hq6)
  (case hiq6 => rfl)
  (case hsq6 => kernel_rfl)
  (case hfq6 => kernel_rfl)
  (case hrq6 => kernel_rfl)
  (case hQq6 => exact fun _ _ _ h => leaves_congr (by simp [results, Try.results19, go_sem, Act.put, Array.getD_eq_getD_getElem?, Array.getElem?_setIfInBounds]) _ _ _ h)
  (case hSq6 => assumption)
  (case hyq6 => (refine Or.inl ⟨by rfl, ?_⟩; intro W hW; (try dsimp only at hW); go_simp; try with_reducible rfl))
  (try simp only [List.getElem_toArray, List.getElem_cons_succ, List.getElem_cons_zero, Act.put, List.setIfInBounds_toArray, List.set_cons_zero, List.set_cons_succ])
  refine wpAnyH_ready (rs := [7]) (by kernel_rfl) (by simp) ?_
  refine AllReadyH.cons rfl (fun K hK => ?_) (AllReadyH.nil)
  go_simp
  refine (IN.out _ _ (hi5.sh.below (Below.refl _ _).drew)).mono ?_
  rintro e6 w6 ⟨rfl, hb6⟩
  have hb56 : Below w5.heap.size w5 w6 := (Below.refl w5.heap.size w5).drew.trans hb6
  replace e0 := (hb56.cell (p := ⟨w.heap.size + 1 + 1, 0, none⟩) (by show w.heap.size + 1 + 1 < _; omega)).trans e0
  replace z0 := (hb56.frozen (p := ⟨w.heap.size + 1 + 1, 0, none⟩) (by show w.heap.size + 1 + 1 < _; omega)).trans z0
  have hb06 : Below w.heap.size w w6 := hb05.trans (hb56.mono (by omega))
  change Leaves _ _ _ _ _ _ _
  refine leaves_cons (f := 29) (args := #[.pointer (some ⟨w.heap.size + 1 + 1, 0, none⟩)]) (by simp) (by simp [go_sem]) ?_
  refine (caught_up (w.heap.size + 1 + 1) 0 4 [] w6 e0 z0).mono ?_
  rintro e u' w'' ⟨rfl, rfl, rfl⟩
  have e1 := cell_put w6 ⟨w.heap.size + 1 + 1, 0, none⟩ (.int .i64 4) (by rw [e0]; rfl)
  simp [Leaves, settle, results, Try.results19, go_sem, e1]
  (repeat (first | exact Below.refl _ _ | (with_reducible assumption) | refine Below.drew ?_ | refine Below.drewN' ?_ _ | refine Below.alloc ?_ (by first | omega | (simp; done) | (simp; omega)) _ | refine Below.setCell ?_ (by first | omega | (simp; done) | (simp; omega)) _ | refine Below.then ?_ hb9 (by first | omega | (simp; done) | (simp; omega)) | refine Below.then ?_ hb8 (by first | omega | (simp; done) | (simp; omega)) | refine Below.then ?_ hb7 (by first | omega | (simp; done) | (simp; omega)) | refine Below.then ?_ hb6 (by first | omega | (simp; done) | (simp; omega)) | refine Below.then ?_ hb5 (by first | omega | (simp; done) | (simp; omega)) | refine Below.then ?_ hb4 (by first | omega | (simp; done) | (simp; omega)) | refine Below.then ?_ hb3 (by first | omega | (simp; done) | (simp; omega)) | refine Below.then ?_ hb2 (by first | omega | (simp; done) | (simp; omega)) | refine Below.then ?_ hb1 (by first | omega | (simp; done) | (simp; omega))))

set_option maxRecDepth 100000 in
set_option maxHeartbeats 1600000 in
theorem put_big (p b : Nat) (l : List Int) (t sp : Int) (a : Option Addr) (c : Nat) (ss : List ByteArray) (at_ s m link : Int) (fa : Option Addr) (fc : Nat) (fl : List Int) (hr : rightB s m = true) (he : ofE ss s = 0) (nn : Int) (hsn : sizeN ss s = nn) (hnr : 2 ≤ nn ∧ nn ≤ 10) (hk : (fl.length : Int) = nn - 2) (hfl : fl.length ≤ maxLen) (h0 : 3 + 2 * t ≤ at_) (h1 : at_ < szP t sp) (hbig : sp - inV t sp at_ < nn) (w : World) (h : PIn w p b l t sp a ss) :
    Calls Try.prog 19 #[.pointer (some ⟨p, 0, none⟩), .agg #[.int .i64 t, .int .i64 sp, .slice a ss.length c], objV at_ s m link fa fl.length fc] w fun e w' => e = .returned (.int .i64 4) ∧ Below w.heap.size w w' := by
  have H := Lib.hid (fun W (h : PIn W p b l t sp a ss) => h.of c W)
  obtain ⟨b1, b2, b3, b4, _⟩ := plan_ok h.plan
  have hl4 := h.ar.len
  have hll := h.len
  have hnn := h.n
  have HP := Lib.hid h
  have MK := Lib.hid (fun W => make_calls s m W)
  unfold heapV at H
  have e1 : hMakeE s m = 0 := by unfold hMakeE; rw [hr]; rfl
  have e2 : hMakeW s m = hWord s m := by unfold hMakeW; rw [hr]; rfl
  rw [e1, e2] at MK
  have HM := Lib.hid (fun n W => must_ok n W)
  have hwr := hword_rng hr
  have SZ := fun W h => hSize_calls (hWord s m) hwr.1 hwr.2 a c ss hnn W h
  rw [hword_size hr, hword_err hr] at SZ
  rw [he, hsn] at SZ
  have g1 : ((fl.length : Int) == nn - 2) = true := beq_iff_eq.2 hk
  have g2 : IntKind.i64.wrap (nn - 2) = nn - 2 := IntWalk.i64_in _ (by omega)
  have SZ := Lib.hid SZ
  have IN := fun B W hh => inside_ok t sp a c ss B at_ hnn h.plan h0 h1 W hh
  unfold heapV at IN
  have IN := Lib.hid IN
  obtain ⟨v0, v1⟩ := inV_range (t := t) (sp := sp) (at_ := at_) b3
  have g4 : IntKind.i64.wrap (sp - inV t sp at_) = sp - inV t sp at_ := IntWalk.i64_in _ (by omega)
  have g3 : decide (nn ≤ sp - inV t sp at_) = false := by rw [decide_eq_false_iff_not]; omega
  have M4 := Lib.hid (fun W => must_no 4 W)
  clear h
  unfold objV
  go_enter_defers Try.func19, Try.ntmps19
  go_wp2_with fail
  refine (H.out _ (((HP.out.alloc _).alloc _).alloc _)).mono ?_
  rintro e1 w1 ⟨rfl, hi1, hb1⟩
  obtain ⟨hc1, hf1⟩ := bcell hb1
  have hz1 := hb1.size
  (try simp at hz1)
  have hi1 : HIn w1 p b l (w.heap.size + 1 + 1 + 1) a ss := by simpa using hi1
  have hb01 : Below w.heap.size w w1 := by (repeat (first | exact Below.refl _ _ | (with_reducible assumption) | refine Below.drew ?_ | refine Below.drewN' ?_ _ | refine Below.alloc ?_ (by first | omega | (simp; done) | (simp; omega)) _ | refine Below.setCell ?_ (by first | omega | (simp; done) | (simp; omega)) _ | refine Below.then ?_ hb9 (by first | omega | (simp; done) | (simp; omega)) | refine Below.then ?_ hb8 (by first | omega | (simp; done) | (simp; omega)) | refine Below.then ?_ hb7 (by first | omega | (simp; done) | (simp; omega)) | refine Below.then ?_ hb6 (by first | omega | (simp; done) | (simp; omega)) | refine Below.then ?_ hb5 (by first | omega | (simp; done) | (simp; omega)) | refine Below.then ?_ hb4 (by first | omega | (simp; done) | (simp; omega)) | refine Below.then ?_ hb3 (by first | omega | (simp; done) | (simp; omega)) | refine Below.then ?_ hb2 (by first | omega | (simp; done) | (simp; omega)) | refine Below.then ?_ hb1 (by first | omega | (simp; done) | (simp; omega))))
  have e0 := hc1 (w.heap.size + 1 + 1) 0 (by first | omega | (simp; done) | (simp; omega)); simp [go_sem] at e0
  have x0 := hc1 (w.heap.size + 1) 0 (by first | omega | (simp; done) | (simp; omega)); simp [go_sem] at x0
  have x1 := hc1 (w.heap.size + 1) 1 (by first | omega | (simp; done) | (simp; omega)); simp [go_sem] at x1
  have x2 := hc1 (w.heap.size + 1) 2 (by first | omega | (simp; done) | (simp; omega)); simp [go_sem] at x2
  have x3 := hc1 (w.heap.size + 1) 3 (by first | omega | (simp; done) | (simp; omega)); simp [go_sem] at x3
  have x4 := hc1 (w.heap.size + 1) 4 (by first | omega | (simp; done) | (simp; omega)); simp [go_sem] at x4
  have p0 := hc1 (w.heap.size) 0 (by first | omega | (simp; done) | (simp; omega)); simp [go_sem] at p0
  have p1 := hc1 (w.heap.size) 1 (by first | omega | (simp; done) | (simp; omega)); simp [go_sem] at p1
  have p2 := hc1 (w.heap.size) 2 (by first | omega | (simp; done) | (simp; omega)); simp [go_sem] at p2
  have z0 := hf1 (w.heap.size + 1 + 1) 0 (by first | omega | (simp; done) | (simp; omega)); simp [go_sem] at z0
  clear hc1 hf1
  have la : w.heap.size < w1.heap.size := by first | omega | (simp; done) | (simp; omega)
  have lb : w.heap.size + 1 < w1.heap.size := by first | omega | (simp; done) | (simp; omega)
  have lc : w.heap.size + 1 + 1 < w1.heap.size := by first | omega | (simp; done) | (simp; omega)
  go_wp2_with fail
  refine (MK.out _).mono ?_
  rintro e2 w2 ⟨rfl, hb2⟩
  obtain ⟨hc2, hf2⟩ := bcell hb2
  have hz2 := hb2.size
  (try simp at hz2)
  have kc2 := fun B o (hB : B < w1.heap.size) => (hc2 B o (by simp; omega)).trans (((Below.refl w1.heap.size w1).alloc (Nat.le_refl _) _).cell (p := ⟨B, o, none⟩) hB)
  have kf2 := fun B o (hB : B < w1.heap.size) => (hf2 B o (by simp; omega)).trans (((Below.refl w1.heap.size w1).alloc (Nat.le_refl _) _).frozen (p := ⟨B, o, none⟩) hB)
  have a0 := hc2 w1.heap.size 0 (by first | omega | (simp; done) | (simp; omega)); simp [go_sem] at a0
  have a1 := hc2 w1.heap.size 1 (by first | omega | (simp; done) | (simp; omega)); simp [go_sem] at a1
  have a2 := hc2 w1.heap.size 2 (by first | omega | (simp; done) | (simp; omega)); simp [go_sem] at a2
  have a3 := hc2 w1.heap.size 3 (by first | omega | (simp; done) | (simp; omega)); simp [go_sem] at a3
  replace e0 := (kc2 (w.heap.size + 1 + 1) 0 (by omega)).trans e0
  replace x0 := (kc2 (w.heap.size + 1) 0 (by omega)).trans x0
  replace x1 := (kc2 (w.heap.size + 1) 1 (by omega)).trans x1
  replace x2 := (kc2 (w.heap.size + 1) 2 (by omega)).trans x2
  replace x3 := (kc2 (w.heap.size + 1) 3 (by omega)).trans x3
  replace x4 := (kc2 (w.heap.size + 1) 4 (by omega)).trans x4
  replace p0 := (kc2 (w.heap.size) 0 (by omega)).trans p0
  replace p1 := (kc2 (w.heap.size) 1 (by omega)).trans p1
  replace p2 := (kc2 (w.heap.size) 2 (by omega)).trans p2
  replace z0 := (kf2 (w.heap.size + 1 + 1) 0 (by omega)).trans z0
  have hb12 : Below w1.heap.size w1 w2 := ((Below.refl _ _).alloc (Nat.le_refl _) _).trans (hb2.mono (by simp))
  have hi2 := hi1.below hb12
  have hb02 : Below w.heap.size w w2 := hb01.trans (hb12.mono (by omega))
  clear kc2 kf2 hc2 hf2 hb2
  go_wp2_with fail
  refine (HM.out 2 _).mono ?_
  rintro e3 w3 ⟨rfl, hb3⟩
  obtain ⟨hc3, hf3⟩ := bcell hb3
  have hz3 := hb3.size
  (try simp at hz3)
  replace e0 := (hc3 (w.heap.size + 1 + 1) 0 (by omega)).trans e0
  replace x0 := (hc3 (w.heap.size + 1) 0 (by omega)).trans x0
  replace x1 := (hc3 (w.heap.size + 1) 1 (by omega)).trans x1
  replace x2 := (hc3 (w.heap.size + 1) 2 (by omega)).trans x2
  replace x3 := (hc3 (w.heap.size + 1) 3 (by omega)).trans x3
  replace x4 := (hc3 (w.heap.size + 1) 4 (by omega)).trans x4
  replace p0 := (hc3 (w.heap.size) 0 (by omega)).trans p0
  replace p1 := (hc3 (w.heap.size) 1 (by omega)).trans p1
  replace p2 := (hc3 (w.heap.size) 2 (by omega)).trans p2
  replace a0 := (hc3 (w1.heap.size) 0 (by omega)).trans a0
  replace a1 := (hc3 (w1.heap.size) 1 (by omega)).trans a1
  replace a2 := (hc3 (w1.heap.size) 2 (by omega)).trans a2
  replace a3 := (hc3 (w1.heap.size) 3 (by omega)).trans a3
  replace z0 := (hf3 (w.heap.size + 1 + 1) 0 (by omega)).trans z0
  have hi3 := hi2.below hb3
  have hb03 : Below w.heap.size w w3 := hb02.trans (hb3.mono (by omega))
  clear hc3 hf3
  go_wp2_with fail
  refine (SZ.out _ hi3.sh).mono ?_
  rintro e4 w4 ⟨rfl, hb4⟩
  obtain ⟨hc4, hf4⟩ := bcell hb4
  have hz4 := hb4.size
  (try simp at hz4)
  replace e0 := (hc4 (w.heap.size + 1 + 1) 0 (by omega)).trans e0
  replace x0 := (hc4 (w.heap.size + 1) 0 (by omega)).trans x0
  replace x1 := (hc4 (w.heap.size + 1) 1 (by omega)).trans x1
  replace x2 := (hc4 (w.heap.size + 1) 2 (by omega)).trans x2
  replace x3 := (hc4 (w.heap.size + 1) 3 (by omega)).trans x3
  replace x4 := (hc4 (w.heap.size + 1) 4 (by omega)).trans x4
  replace p0 := (hc4 (w.heap.size) 0 (by omega)).trans p0
  replace p1 := (hc4 (w.heap.size) 1 (by omega)).trans p1
  replace p2 := (hc4 (w.heap.size) 2 (by omega)).trans p2
  replace a0 := (hc4 (w1.heap.size) 0 (by omega)).trans a0
  replace a1 := (hc4 (w1.heap.size) 1 (by omega)).trans a1
  replace a2 := (hc4 (w1.heap.size) 2 (by omega)).trans a2
  replace a3 := (hc4 (w1.heap.size) 3 (by omega)).trans a3
  replace z0 := (hf4 (w.heap.size + 1 + 1) 0 (by omega)).trans z0
  have hi4 := hi3.below hb4
  have hb04 : Below w.heap.size w w4 := hb03.trans (hb4.mono (by omega))
  clear hc4 hf4
  go_wp2_with fail
  refine (HM.out 2 _).mono ?_
  rintro e5 w5 ⟨rfl, hb5⟩
  obtain ⟨hc5, hf5⟩ := bcell hb5
  have hz5 := hb5.size
  (try simp at hz5)
  replace e0 := (hc5 (w.heap.size + 1 + 1) 0 (by omega)).trans e0
  replace x0 := (hc5 (w.heap.size + 1) 0 (by omega)).trans x0
  replace x1 := (hc5 (w.heap.size + 1) 1 (by omega)).trans x1
  replace x2 := (hc5 (w.heap.size + 1) 2 (by omega)).trans x2
  replace x3 := (hc5 (w.heap.size + 1) 3 (by omega)).trans x3
  replace x4 := (hc5 (w.heap.size + 1) 4 (by omega)).trans x4
  replace p0 := (hc5 (w.heap.size) 0 (by omega)).trans p0
  replace p1 := (hc5 (w.heap.size) 1 (by omega)).trans p1
  replace p2 := (hc5 (w.heap.size) 2 (by omega)).trans p2
  replace a0 := (hc5 (w1.heap.size) 0 (by omega)).trans a0
  replace a1 := (hc5 (w1.heap.size) 1 (by omega)).trans a1
  replace a2 := (hc5 (w1.heap.size) 2 (by omega)).trans a2
  replace a3 := (hc5 (w1.heap.size) 3 (by omega)).trans a3
  replace z0 := (hf5 (w.heap.size + 1 + 1) 0 (by omega)).trans z0
  have hi5 := hi4.below hb5
  have hb05 : Below w.heap.size w w5 := hb04.trans (hb5.mono (by omega))
  clear hc5 hf5
  go_wp2_with fail
  have keepS := Lib.hid (show ∀ A B' : World, (A.cell? ⟨w1.heap.size, 0, none⟩ = some (.int .i64 t) ∧ A.cell? ⟨w1.heap.size, 1, none⟩ = some (.int .i64 sp) ∧ A.cell? ⟨w1.heap.size, 2, none⟩ = some (.slice a ss.length c) ∧ A.cell? ⟨w1.heap.size, 3, none⟩ = some (.func (.func 56) #[] #[.pointer (some ⟨w.heap.size + 1 + 1 + 1, 0, none⟩)]) ∧ A.cell? ⟨w.heap.size + 1, 0, none⟩ = some (.int .i64 at_)) → Below w5.heap.size A B' → (B'.cell? ⟨w1.heap.size, 0, none⟩ = some (.int .i64 t) ∧ B'.cell? ⟨w1.heap.size, 1, none⟩ = some (.int .i64 sp) ∧ B'.cell? ⟨w1.heap.size, 2, none⟩ = some (.slice a ss.length c) ∧ B'.cell? ⟨w1.heap.size, 3, none⟩ = some (.func (.func 56) #[] #[.pointer (some ⟨w.heap.size + 1 + 1 + 1, 0, none⟩)]) ∧ B'.cell? ⟨w.heap.size + 1, 0, none⟩ = some (.int .i64 at_)) from fun A B' hc hb => ⟨(hb.cell (p := ⟨w1.heap.size, 0, none⟩) (by show w1.heap.size < _; omega)).trans hc.1, (hb.cell (p := ⟨w1.heap.size, 1, none⟩) (by show w1.heap.size < _; omega)).trans hc.2.1, (hb.cell (p := ⟨w1.heap.size, 2, none⟩) (by show w1.heap.size < _; omega)).trans hc.2.2.1, (hb.cell (p := ⟨w1.heap.size, 3, none⟩) (by show w1.heap.size < _; omega)).trans hc.2.2.2.1, (hb.cell (p := ⟨w.heap.size + 1, 0, none⟩) (by show w.heap.size + 1 < _; omega)).trans hc.2.2.2.2⟩)
  refine wp_region_held_drew (S := fun A => (A.cell? ⟨w1.heap.size, 0, none⟩ = some (.int .i64 t) ∧ A.cell? ⟨w1.heap.size, 1, none⟩ = some (.int .i64 sp) ∧ A.cell? ⟨w1.heap.size, 2, none⟩ = some (.slice a ss.length c) ∧ A.cell? ⟨w1.heap.size, 3, none⟩ = some (.func (.func 56) #[] #[.pointer (some ⟨w.heap.size + 1 + 1 + 1, 0, none⟩)]) ∧ A.cell? ⟨w.heap.size + 1, 0, none⟩ = some (.int .i64 at_))) (by kernel_rfl) ?hS0 (fun hHeld => ?_)
  case hS0 => exact ⟨a0, a1, a2, a3, x0⟩
  (refine wpAnyH_take (i := 0) (oi := ?oiq0) (v := ?vq0) ?hiq0 ?hsq0 ?hfq0 ?hrq0 ?hQq0 ?hyq0 ?hSq0 ?hq0)
  (case hiq0 => rfl)
  (case hsq0 => kernel_rfl)
  (case hfq0 => kernel_rfl)
  (case hrq0 => kernel_rfl)
  (case hQq0 => exact fun _ _ _ h => leaves_congr (by simp [results, Try.results19, go_sem, Act.put, Array.getD_eq_getD_getElem?, Array.getElem?_setIfInBounds]) _ _ _ h)
  (case hSq0 => assumption)
  (case hyq0 => (refine Or.inl ⟨by rfl, ?_⟩; intro W hW; (try dsimp only at hW); go_simp; try with_reducible rfl))
  (try simp only [List.getElem_toArray, List.getElem_cons_succ, List.getElem_cons_zero, Act.put, List.setIfInBounds_toArray, List.set_cons_zero, List.set_cons_succ])
  (refine wpAnyH_take (i := 1) (oi := ?oiq1) (v := ?vq1) ?hiq1 ?hsq1 ?hfq1 ?hrq1 ?hQq1 ?hyq1 ?hSq1 ?hq1)
  (case hiq1 => rfl)
  (case hsq1 => kernel_rfl)
  (case hfq1 => kernel_rfl)
  (case hrq1 => kernel_rfl)
  (case hQq1 => exact fun _ _ _ h => leaves_congr (by simp [results, Try.results19, go_sem, Act.put, Array.getD_eq_getD_getElem?, Array.getElem?_setIfInBounds]) _ _ _ h)
  (case hSq1 => assumption)
  (case hyq1 => (refine Or.inl ⟨by rfl, ?_⟩; intro W hW; (try dsimp only at hW); go_simp; try with_reducible rfl))
  (try simp only [List.getElem_toArray, List.getElem_cons_succ, List.getElem_cons_zero, Act.put, List.setIfInBounds_toArray, List.set_cons_zero, List.set_cons_succ])
  (refine wpAnyH_take (i := 2) (oi := ?oiq2) (v := ?vq2) ?hiq2 ?hsq2 ?hfq2 ?hrq2 ?hQq2 ?hyq2 ?hSq2 ?hq2)
  (case hiq2 => rfl)
  (case hsq2 => kernel_rfl)
  (case hfq2 => kernel_rfl)
  (case hrq2 => kernel_rfl)
  (case hQq2 => exact fun _ _ _ h => leaves_congr (by simp [results, Try.results19, go_sem, Act.put, Array.getD_eq_getD_getElem?, Array.getElem?_setIfInBounds]) _ _ _ h)
  (case hSq2 => assumption)
  (case hyq2 => (refine Or.inl ⟨by rfl, ?_⟩; intro W hW; (try dsimp only at hW); go_simp; try with_reducible rfl))
  (try simp only [List.getElem_toArray, List.getElem_cons_succ, List.getElem_cons_zero, Act.put, List.setIfInBounds_toArray, List.set_cons_zero, List.set_cons_succ])
  (refine wpAnyH_take (i := 3) (oi := ?oiq3) (v := ?vq3) ?hiq3 ?hsq3 ?hfq3 ?hrq3 ?hQq3 ?hyq3 ?hSq3 ?hq3)
  (case hiq3 => rfl)
  (case hsq3 => kernel_rfl)
  (case hfq3 => kernel_rfl)
  (case hrq3 => kernel_rfl)
  (case hQq3 => exact fun _ _ _ h => leaves_congr (by simp [results, Try.results19, go_sem, Act.put, Array.getD_eq_getD_getElem?, Array.getElem?_setIfInBounds]) _ _ _ h)
  (case hSq3 => assumption)
  (case hyq3 => (refine Or.inl ⟨by rfl, ?_⟩; intro W hW; (try dsimp only at hW); go_simp; try with_reducible rfl))
  (try simp only [List.getElem_toArray, List.getElem_cons_succ, List.getElem_cons_zero, Act.put, List.setIfInBounds_toArray, List.set_cons_zero, List.set_cons_succ])
  (refine wpAnyH_take (i := 4) (oi := ?oiq4) (v := ?vq4) ?hiq4 ?hsq4 ?hfq4 ?hrq4 ?hQq4 ?hyq4 ?hSq4 ?hq4)
  (case hiq4 => rfl)
  (case hsq4 => kernel_rfl)
  (case hfq4 => kernel_rfl)
  (case hrq4 => kernel_rfl)
  (case hQq4 => exact fun _ _ _ h => leaves_congr (by simp [results, Try.results19, go_sem, Act.put, Array.getD_eq_getD_getElem?, Array.getElem?_setIfInBounds]) _ _ _ h)
  (case hSq4 => assumption)
  (case hyq4 => (refine Or.inl ⟨by rfl, ?_⟩; intro W hW; (try dsimp only at hW); go_simp; try with_reducible rfl))
  (try simp only [List.getElem_toArray, List.getElem_cons_succ, List.getElem_cons_zero, Act.put, List.setIfInBounds_toArray, List.set_cons_zero, List.set_cons_succ])
  (refine wpAnyH_take (i := 5) (oi := ?oiq5) (v := ?vq5) ?hiq5 ?hsq5 ?hfq5 ?hrq5 ?hQq5 ?hyq5 ?hSq5 ?hq5)
  (case hiq5 => rfl)
  (case hsq5 => kernel_rfl)
  (case hfq5 => kernel_rfl)
  (case hrq5 => kernel_rfl)
  (case hQq5 => exact fun _ _ _ h => leaves_congr (by simp [results, Try.results19, go_sem, Act.put, Array.getD_eq_getD_getElem?, Array.getElem?_setIfInBounds]) _ _ _ h)
  (case hSq5 => assumption)
  (case hyq5 => (refine Or.inl ⟨by rfl, ?_⟩; intro W hW; (try dsimp only at hW); go_simp; try with_reducible rfl))
  (try simp only [List.getElem_toArray, List.getElem_cons_succ, List.getElem_cons_zero, Act.put, List.setIfInBounds_toArray, List.set_cons_zero, List.set_cons_succ])
  (refine wpAnyH_take (i := 6) (oi := ?oiq6) (v := ?vq6) ?hiq6 ?hsq6 ?hfq6 ?hrq6 ?hQq6 ?hyq6 ?hSq6 ?hq6)
  (case hiq6 => rfl)
  (case hsq6 => kernel_rfl)
  (case hfq6 => kernel_rfl)
  (case hrq6 => kernel_rfl)
  (case hQq6 => exact fun _ _ _ h => leaves_congr (by simp [results, Try.results19, go_sem, Act.put, Array.getD_eq_getD_getElem?, Array.getElem?_setIfInBounds]) _ _ _ h)
  (case hSq6 => assumption)
  (case hyq6 => (refine Or.inl ⟨by rfl, ?_⟩; intro W hW; (try dsimp only at hW); go_simp; try with_reducible rfl))
  (try simp only [List.getElem_toArray, List.getElem_cons_succ, List.getElem_cons_zero, Act.put, List.setIfInBounds_toArray, List.set_cons_zero, List.set_cons_succ])
  refine wpAnyH_ready (rs := [7]) (by kernel_rfl) (by simp) ?_
  refine AllReadyH.cons rfl (fun K hK => ?_) (AllReadyH.nil)
  go_simp
  refine (IN.out _ _ (hi5.sh.below (Below.refl _ _).drew)).mono ?_
  rintro e6 w6 ⟨rfl, hb6⟩
  have hb56 : Below w5.heap.size w5 w6 := (Below.refl w5.heap.size w5).drew.trans hb6
  have hz6 := hb56.size
  refine hK.out _ _ ?_ (fun hHeld => ?_)
  · exact keepS.out _ _ ⟨a0, a1, a2, a3, x0⟩ hb56
  clear hK K
  (try simp only [List.getElem_toArray, List.getElem_cons_succ, List.getElem_cons_zero, Act.put, List.setIfInBounds_toArray, List.set_cons_zero, List.set_cons_succ])
  (refine wpAnyH_take (i := 8) (oi := ?oiq8) (v := ?vq8) ?hiq8 ?hsq8 ?hfq8 ?hrq8 ?hQq8 ?hyq8 ?hSq8 ?hq8)
  (case hiq8 => rfl)
  (case hsq8 => kernel_rfl)
  (case hfq8 => kernel_rfl)
  (case hrq8 => kernel_rfl)
  (case hQq8 => exact fun _ _ _ h => leaves_congr (by simp [results, Try.results19, go_sem, Act.put, Array.getD_eq_getD_getElem?, Array.getElem?_setIfInBounds]) _ _ _ h)
  (case hSq8 => assumption)
  (case hyq8 => (refine Or.inl ⟨by rfl, ?_⟩; intro W hW; (try dsimp only at hW); go_simp; try with_reducible rfl))
  (try simp only [List.getElem_toArray, List.getElem_cons_succ, List.getElem_cons_zero, Act.put, List.setIfInBounds_toArray, List.set_cons_zero, List.set_cons_succ])
  (refine wpAnyH_take (i := 9) (oi := ?oiq9) (v := ?vq9) ?hiq9 ?hsq9 ?hfq9 ?hrq9 ?hQq9 ?hyq9 ?hSq9 ?hq9)
  (case hiq9 => rfl)
  (case hsq9 => kernel_rfl)
  (case hfq9 => kernel_rfl)
  (case hrq9 => kernel_rfl)
  (case hQq9 => exact fun _ _ _ h => leaves_congr (by simp [results, Try.results19, go_sem, Act.put, Array.getD_eq_getD_getElem?, Array.getElem?_setIfInBounds]) _ _ _ h)
  (case hSq9 => assumption)
  (case hyq9 => (refine Or.inl ⟨by rfl, ?_⟩; intro W hW; (try dsimp only at hW); go_simp; try with_reducible rfl))
  (try simp only [List.getElem_toArray, List.getElem_cons_succ, List.getElem_cons_zero, Act.put, List.setIfInBounds_toArray, List.set_cons_zero, List.set_cons_succ])
  refine wpAnyH_ready (rs := [10]) (by kernel_rfl) (by simp) ?_
  refine AllReadyH.cons rfl (fun K hK => ?_) (AllReadyH.nil)
  go_simp
  refine (M4.out _).mono ?_
  rintro e7 w7 ⟨rfl, hb7⟩
  have hb57 := hb56.trans (hb7.mono (by omega))
  replace e0 := (hb57.cell (p := ⟨w.heap.size + 1 + 1, 0, none⟩) (by show w.heap.size + 1 + 1 < _; omega)).trans e0
  replace z0 := (hb57.frozen (p := ⟨w.heap.size + 1 + 1, 0, none⟩) (by show w.heap.size + 1 + 1 < _; omega)).trans z0
  have hb07 : Below w.heap.size w w7 := hb05.trans (hb57.mono (by omega))
  change Leaves _ _ _ _ _ _ _
  refine leaves_cons (f := 29) (args := #[.pointer (some ⟨w.heap.size + 1 + 1, 0, none⟩)]) (by simp) (by simp [go_sem]) ?_
  refine (caught_up (w.heap.size + 1 + 1) 0 4 [] w7 e0 z0).mono ?_
  rintro e u' w'' ⟨rfl, rfl, rfl⟩
  have e1 := cell_put w7 ⟨w.heap.size + 1 + 1, 0, none⟩ (.int .i64 4) (by rw [e0]; rfl)
  simp [Leaves, settle, results, Try.results19, go_sem, e1]
  (repeat (first | exact Below.refl _ _ | (with_reducible assumption) | refine Below.drew ?_ | refine Below.drewN' ?_ _ | refine Below.alloc ?_ (by first | omega | (simp; done) | (simp; omega)) _ | refine Below.setCell ?_ (by first | omega | (simp; done) | (simp; omega)) _ | refine Below.then ?_ hb9 (by first | omega | (simp; done) | (simp; omega)) | refine Below.then ?_ hb8 (by first | omega | (simp; done) | (simp; omega)) | refine Below.then ?_ hb7 (by first | omega | (simp; done) | (simp; omega)) | refine Below.then ?_ hb6 (by first | omega | (simp; done) | (simp; omega)) | refine Below.then ?_ hb5 (by first | omega | (simp; done) | (simp; omega)) | refine Below.then ?_ hb4 (by first | omega | (simp; done) | (simp; omega)) | refine Below.then ?_ hb3 (by first | omega | (simp; done) | (simp; omega)) | refine Below.then ?_ hb2 (by first | omega | (simp; done) | (simp; omega)) | refine Below.then ?_ hb1 (by first | omega | (simp; done) | (simp; omega))))

end Go.Proofs.Ytiodkcecpnomcaa
