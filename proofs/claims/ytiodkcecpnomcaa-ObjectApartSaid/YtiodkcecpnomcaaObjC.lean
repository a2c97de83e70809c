/- The layer 'object': what stands at a word; where fields stand. -/
import Derived.Test.YtiodkcecpnomcaaObjB
namespace Go.Proofs.Ytiodkcecpnomcaa
open Go.RowKit
set_option linter.unusedVariables false
set_option linter.unusedSimpArgs false

set_option maxRecDepth 100000 in
set_option maxHeartbeats 800000 in
theorem stands_range (t sp : Int) (a : Option Addr) (c : Nat) (ss : List ByteArray) (B : Nat) (at_ : Int) (hn : ss.length ≤ maxLen) (hp : planB t sp ss = true) (h0 : at_ < 3 + 2 * t ∨ szP t sp ≤ at_) (w : World) (hs : SlOf w a (strV ss)) :
    Calls Try.prog 31 #[heapV t sp a ss.length c B, .int .i64 at_] w fun e w' => e = .panicked (up 4) ∧ Below w.heap.size w w' := by
  have H := fun W h => inside_no t sp a c ss B at_ hn hp h0 W h
  unfold heapV at H
  have H := Lib.hid H
  have HS := Lib.hid hs
  clear hs hp h0
  unfold heapV
  go_enter Try.func31, Try.ntmps31
  go_wp2_with fail
  refine (H.out _ (HS.out.alloc _)).mono ?_; rintro e1 w1 ⟨rfl, hb1⟩; have hz1 := hb1.size; (try simp at hz1)
  go_wp2
  simp only [bodyPost]; refine ⟨by trivial, by first | trivial | rfl, ?_⟩; (repeat (first | exact Below.refl _ _ | (with_reducible assumption) | refine Below.drew ?_ | refine Below.drewN' ?_ _ | refine Below.alloc ?_ (by first | omega | (simp; done) | (simp; omega)) _ | refine Below.setCell ?_ (by first | omega | (simp; done) | (simp; omega)) _ | refine Below.then ?_ hb9 (by first | omega | (simp; done) | (simp; omega)) | refine Below.then ?_ hb8 (by first | omega | (simp; done) | (simp; omega)) | refine Below.then ?_ hb7 (by first | omega | (simp; done) | (simp; omega)) | refine Below.then ?_ hb6 (by first | omega | (simp; done) | (simp; omega)) | refine Below.then ?_ hb5 (by first | omega | (simp; done) | (simp; omega)) | refine Below.then ?_ hb4 (by first | omega | (simp; done) | (simp; omega)) | refine Below.then ?_ hb3 (by first | omega | (simp; done) | (simp; omega)) | refine Below.then ?_ hb2 (by first | omega | (simp; done) | (simp; omega)) | refine Below.then ?_ hb1 (by first | omega | (simp; done) | (simp; omega))))
set_option maxRecDepth 100000 in
set_option maxHeartbeats 800000 in
theorem stands_head (p b : Nat) (l : List Int) (t sp : Int) (a : Option Addr) (c : Nat) (ss : List ByteArray) (B : Nat) (i : Nat) (hn : ss.length ≤ maxLen) (hp : planB t sp ss = true) (h0 : 3 + 2 * t ≤ i) (h1 : (i : Int) < szP t sp) (hi : i < l.length) (hz : sizeO t sp ss l[i] i = 0) (w : World) (h : HIn w p b l B a ss) :
    Calls Try.prog 31 #[heapV t sp a ss.length c B, .int .i64 (i : Int)] w fun e w' => e = .panicked (up 170) ∧ Below w.heap.size w w' := by
  have H := fun W h => inside_ok t sp a c ss B (i : Int) hn hp h0 h1 W h
  have Z := fun W h => objSize_calls p b l t sp a c ss B i hn hp h0 h1 hi W h
  rw [hz] at Z
  unfold heapV at H Z
  have H := Lib.hid H
  have Z := Lib.hid Z
  have M := Lib.hid (fun n W => must_no n W)
  have HS := Lib.hid h
  clear h hp h0 h1 hz
  unfold heapV
  go_enter Try.func31, Try.ntmps31
  go_wp2_with fail
  refine (H.out _ (HS.out.alloc _).sh).mono ?_; rintro e1 w1 ⟨rfl, hb1⟩; obtain ⟨hc1, hf1⟩ := bcell hb1; have hz1 := hb1.size; (try simp at hz1)
  have a0 := hc1 w.heap.size 0 (by first | omega | (simp; done) | (simp; omega)); simp [go_sem] at a0
  have a1 := hc1 w.heap.size 1 (by first | omega | (simp; done) | (simp; omega)); simp [go_sem] at a1
  have a2 := hc1 w.heap.size 2 (by first | omega | (simp; done) | (simp; omega)); simp [go_sem] at a2
  have a3 := hc1 w.heap.size 3 (by first | omega | (simp; done) | (simp; omega)); simp [go_sem] at a3
  go_wp2_with fail
  refine (Z.out _ ((HS.out.alloc _).below hb1)).mono ?_; rintro e2 w2 ⟨rfl, hb2⟩; have hz2 := hb2.size; (try simp at hz2)
  go_wp2_with fail
  refine (M.out _ _).mono ?_; rintro e3 w3 ⟨rfl, hb3⟩; have hz3 := hb3.size; (try simp at hz3)
  go_wp2
  simp only [bodyPost]; refine ⟨by trivial, by first | trivial | rfl, ?_⟩; (repeat (first | exact Below.refl _ _ | (with_reducible assumption) | refine Below.drew ?_ | refine Below.drewN' ?_ _ | refine Below.alloc ?_ (by first | omega | (simp; done) | (simp; omega)) _ | refine Below.setCell ?_ (by first | omega | (simp; done) | (simp; omega)) _ | refine Below.then ?_ hb9 (by first | omega | (simp; done) | (simp; omega)) | refine Below.then ?_ hb8 (by first | omega | (simp; done) | (simp; omega)) | refine Below.then ?_ hb7 (by first | omega | (simp; done) | (simp; omega)) | refine Below.then ?_ hb6 (by first | omega | (simp; done) | (simp; omega)) | refine Below.then ?_ hb5 (by first | omega | (simp; done) | (simp; omega)) | refine Below.then ?_ hb4 (by first | omega | (simp; done) | (simp; omega)) | refine Below.then ?_ hb3 (by first | omega | (simp; done) | (simp; omega)) | refine Below.then ?_ hb2 (by first | omega | (simp; done) | (simp; omega)) | refine Below.then ?_ hb1 (by first | omega | (simp; done) | (simp; omega))))
set_option maxRecDepth 100000 in
set_option maxHeartbeats 800000 in
theorem stands_ok (p b : Nat) (l : List Int) (t sp : Int) (a : Option Addr) (c : Nat) (ss : List ByteArray) (B : Nat) (i : Nat) (hn : ss.length ≤ maxLen) (hp : planB t sp ss = true) (h0 : 3 + 2 * t ≤ i) (h1 : (i : Int) < szP t sp) (hi : i < l.length) (hz : 0 < sizeO t sp ss l[i] i) (w : World) (h : HIn w p b l B a ss) :
    Calls Try.prog 31 #[heapV t sp a ss.length c B, .int .i64 (i : Int)] w fun e w' => e = .returned (.int .i64 (sizeO t sp ss l[i] i)) ∧ Below w.heap.size w w' := by
  have H := fun W h => inside_ok t sp a c ss B (i : Int) hn hp h0 h1 W h
  have Z := fun W h => objSize_calls p b l t sp a c ss B i hn hp h0 h1 hi W h
  generalize sizeO t sp ss l[i] i = nn at Z hz
  have g1 : decide (nn > 0) = true := by rw [decide_eq_true_eq]; omega
  unfold heapV at H Z
  have H := Lib.hid H
  have Z := Lib.hid Z
  have M := Lib.hid (fun n W => must_ok n W)
  have HS := Lib.hid h
  clear h hp h0 h1
  unfold heapV
  go_enter Try.func31, Try.ntmps31
  go_wp2_with fail
  refine (H.out _ (HS.out.alloc _).sh).mono ?_; rintro e1 w1 ⟨rfl, hb1⟩; obtain ⟨hc1, hf1⟩ := bcell hb1; have hz1 := hb1.size; (try simp at hz1)
  have a0 := hc1 w.heap.size 0 (by first | omega | (simp; done) | (simp; omega)); simp [go_sem] at a0
  have a1 := hc1 w.heap.size 1 (by first | omega | (simp; done) | (simp; omega)); simp [go_sem] at a1
  have a2 := hc1 w.heap.size 2 (by first | omega | (simp; done) | (simp; omega)); simp [go_sem] at a2
  have a3 := hc1 w.heap.size 3 (by first | omega | (simp; done) | (simp; omega)); simp [go_sem] at a3
  go_wp2_with fail
  refine (Z.out _ ((HS.out.alloc _).below hb1)).mono ?_; rintro e2 w2 ⟨rfl, hb2⟩; have hz2 := hb2.size; (try simp at hz2)
  go_wp2_with fail
  refine (M.out _ _).mono ?_; rintro e3 w3 ⟨rfl, hb3⟩; have hz3 := hb3.size; (try simp at hz3)
  go_wp2
  go_ret
  exact ⟨rfl, by (repeat (first | exact Below.refl _ _ | (with_reducible assumption) | refine Below.drew ?_ | refine Below.drewN' ?_ _ | refine Below.alloc ?_ (by first | omega | (simp; done) | (simp; omega)) _ | refine Below.setCell ?_ (by first | omega | (simp; done) | (simp; omega)) _ | refine Below.then ?_ hb9 (by first | omega | (simp; done) | (simp; omega)) | refine Below.then ?_ hb8 (by first | omega | (simp; done) | (simp; omega)) | refine Below.then ?_ hb7 (by first | omega | (simp; done) | (simp; omega)) | refine Below.then ?_ hb6 (by first | omega | (simp; done) | (simp; omega)) | refine Below.then ?_ hb5 (by first | omega | (simp; done) | (simp; omega)) | refine Below.then ?_ hb4 (by first | omega | (simp; done) | (simp; omega)) | refine Below.then ?_ hb3 (by first | omega | (simp; done) | (simp; omega)) | refine Below.then ?_ hb2 (by first | omega | (simp; done) | (simp; omega)) | refine Below.then ?_ hb1 (by first | omega | (simp; done) | (simp; omega))))⟩

set_option maxRecDepth 100000 in
set_option maxHeartbeats 800000 in
/-- where 'of' gives up -/
theorem place_of (pa : Option Addr) (t sp : Int) (a : Option Addr) (c n : Nat) (at_ f m : Int) (w : World) (h : ∀ W, Below w.heap.size w W → Calls Try.prog 30 #[.pointer pa, .agg #[.int .i64 t, .int .i64 sp, .slice a n c]] W fun e w' => e = .panicked (up m) ∧ Below W.heap.size W w') :
    Calls Try.prog 13 #[.pointer pa, .agg #[.int .i64 t, .int .i64 sp, .slice a n c], .int .i64 at_, .int .i64 f] w fun e w' => e = .returned (.tuple #[.int .i64 0, .int .i64 m]) ∧ Below w.heap.size w w' := by
  have H := Lib.hid h
  clear h
  go_enter_defers Try.func13, Try.ntmps13
  go_wp2_with fail
  refine (H.out _ ?hbel).mono ?_
  case hbel => (repeat (first | exact Below.refl _ _ | (with_reducible assumption) | refine Below.drew ?_ | refine Below.drewN' ?_ _ | refine Below.alloc ?_ (by first | omega | (simp; done) | (simp; omega)) _ | refine Below.setCell ?_ (by first | omega | (simp; done) | (simp; omega)) _ | refine Below.then ?_ hb9 (by first | omega | (simp; done) | (simp; omega)) | refine Below.then ?_ hb8 (by first | omega | (simp; done) | (simp; omega)) | refine Below.then ?_ hb7 (by first | omega | (simp; done) | (simp; omega)) | refine Below.then ?_ hb6 (by first | omega | (simp; done) | (simp; omega)) | refine Below.then ?_ hb5 (by first | omega | (simp; done) | (simp; omega)) | refine Below.then ?_ hb4 (by first | omega | (simp; done) | (simp; omega)) | refine Below.then ?_ hb3 (by first | omega | (simp; done) | (simp; omega)) | refine Below.then ?_ hb2 (by first | omega | (simp; done) | (simp; omega)) | refine Below.then ?_ hb1 (by first | omega | (simp; done) | (simp; omega))))
  rintro e1 w1 ⟨rfl, hb1⟩
  obtain ⟨hc1, hf1⟩ := bcell hb1
  have hz1 := hb1.size
  (try simp at hz1)
  have e0 := hc1 (w.heap.size + 1) 0 (by first | omega | (simp; done) | (simp; omega)); simp [go_sem] at e0
  have z0 := hf1 (w.heap.size + 1) 0 (by first | omega | (simp; done) | (simp; omega)); simp [go_sem] at z0
  go_wp2
  refine leaves_cons (f := 29) (args := #[.pointer (some ⟨w.heap.size + 1, 0, none⟩)]) (by simp) (by simp [go_sem]) ?_
  refine (caught_up (w.heap.size + 1) 0 m [] w1 e0 z0).mono ?_
  rintro e u' w'' ⟨rfl, rfl, rfl⟩
  have e1 := cell_put w1 ⟨w.heap.size + 1, 0, none⟩ (.int .i64 m) (by rw [e0]; rfl)
  simp [Leaves, settle, results, Try.results13, go_sem, e1]
  (repeat (first | exact Below.refl _ _ | (with_reducible assumption) | refine Below.drew ?_ | refine Below.drewN' ?_ _ | refine Below.alloc ?_ (by first | omega | (simp; done) | (simp; omega)) _ | refine Below.setCell ?_ (by first | omega | (simp; done) | (simp; omega)) _ | refine Below.then ?_ hb9 (by first | omega | (simp; done) | (simp; omega)) | refine Below.then ?_ hb8 (by first | omega | (simp; done) | (simp; omega)) | refine Below.then ?_ hb7 (by first | omega | (simp; done) | (simp; omega)) | refine Below.then ?_ hb6 (by first | omega | (simp; done) | (simp; omega)) | refine Below.then ?_ hb5 (by first | omega | (simp; done) | (simp; omega)) | refine Below.then ?_ hb4 (by first | omega | (simp; done) | (simp; omega)) | refine Below.then ?_ hb3 (by first | omega | (simp; done) | (simp; omega)) | refine Below.then ?_ hb2 (by first | omega | (simp; done) | (simp; omega)) | refine Below.then ?_ hb1 (by first | omega | (simp; done) | (simp; omega))))

/-- an arena of a plan, and what it is called with -/
structure PIn (W : World) (p b : Nat) (l : List Int) (t sp : Int) (a : Option Addr) (ss : List ByteArray) : Prop where
  ar : Ar W p b l
  sh : SlOf W a (strV ss)
  n : ss.length ≤ maxLen
  plan : planB t sp ss = true
  len : 3 + 2 * t + 2 * sp = l.length
theorem PIn.below {W W' : World} {p b : Nat} {l : List Int} {t sp : Int} {a : Option Addr} {ss : List ByteArray} (h : PIn W p b l t sp a ss) (hb : Below W.heap.size W W') : PIn W' p b l t sp a ss :=
  ⟨h.ar.below hb, h.sh.below hb, h.n, h.plan, h.len⟩
theorem PIn.alloc {W : World} {p b : Nat} {l : List Int} {t sp : Int} {a : Option Addr} {ss : List ByteArray} (h : PIn W p b l t sp a ss) (o : Obj) : PIn (W.alloc o) p b l t sp a ss := h.below ((Below.refl _ _).alloc (Nat.le_refl _) _)
theorem PIn.of {p b : Nat} {l : List Int} {t sp : Int} {a : Option Addr} {ss : List ByteArray} (c : Nat) (w : World) (h : PIn w p b l t sp a ss) :
    Calls Try.prog 30 #[.pointer (some ⟨p, 0, none⟩), .agg #[.int .i64 t, .int .i64 sp, .slice a ss.length c]] w fun e w' =>
      e = .returned (heapV t sp a ss.length c w.heap.size) ∧ HIn w' p b l w.heap.size a ss ∧ Below w.heap.size w w' :=
  (of_ok p b l t sp a c ss h.n w h.ar h.sh h.plan h.len).mono fun _ _ ⟨h1, h2, h3, h4⟩ => ⟨h1, ⟨h.ar.below h3, h2, h4, h.sh.below h3⟩, h3⟩

set_option maxRecDepth 100000 in
set_option maxHeartbeats 800000 in
/-- where nothing stands there -/
theorem place_st (p b : Nat) (l : List Int) (t sp : Int) (a : Option Addr) (c : Nat) (ss : List ByteArray) (at_ f m : Int) (w : World) (h : PIn w p b l t sp a ss)
    (hs : ∀ B W, HIn W p b l B a ss → Calls Try.prog 31 #[heapV t sp a ss.length c B, .int .i64 at_] W fun e w' => e = .panicked (up m) ∧ Below W.heap.size W w') :
    Calls Try.prog 13 #[.pointer (some ⟨p, 0, none⟩), .agg #[.int .i64 t, .int .i64 sp, .slice a ss.length c], .int .i64 at_, .int .i64 f] w fun e w' => e = .returned (.tuple #[.int .i64 0, .int .i64 m]) ∧ Below w.heap.size w w' := by
  have H := Lib.hid (fun W (h : PIn W p b l t sp a ss) => h.of c W)
  have S := Lib.hid hs
  have HP := Lib.hid h
  clear h hs
  unfold heapV at H S
  go_enter_defers Try.func13, Try.ntmps13
  go_wp2_with fail
  refine (H.out _ ((HP.out.alloc _).alloc _)).mono ?_
  rintro e1 w1 ⟨rfl, hi1, hb1⟩
  obtain ⟨hc1, hf1⟩ := bcell hb1
  have hz1 := hb1.size
  (try simp at hz1)
  have e0 := hc1 (w.heap.size + 1) 0 (by first | omega | (simp; done) | (simp; omega)); simp [go_sem] at e0
  have z0 := hf1 (w.heap.size + 1) 0 (by first | omega | (simp; done) | (simp; omega)); simp [go_sem] at z0
  have hi1 : HIn w1 p b l (w.heap.size + 1 + 1) a ss := by simpa using hi1
  go_wp2_with fail
  refine (S.out _ _ hi1).mono ?_
  rintro e2 w2 ⟨rfl, hb2⟩
  have hz2 := hb2.size
  replace e0 := hold_cell (w2 := w2) e0 (by (repeat (first | exact Below.refl _ _ | (with_reducible assumption) | refine Below.drew ?_ | refine Below.drewN' ?_ _ | refine Below.alloc ?_ (by first | omega | (simp; done) | (simp; omega)) _ | refine Below.setCell ?_ (by first | omega | (simp; done) | (simp; omega)) _ | refine Below.then ?_ hb9 (by first | omega | (simp; done) | (simp; omega)) | refine Below.then ?_ hb8 (by first | omega | (simp; done) | (simp; omega)) | refine Below.then ?_ hb7 (by first | omega | (simp; done) | (simp; omega)) | refine Below.then ?_ hb6 (by first | omega | (simp; done) | (simp; omega)) | refine Below.then ?_ hb5 (by first | omega | (simp; done) | (simp; omega)) | refine Below.then ?_ hb4 (by first | omega | (simp; done) | (simp; omega)) | refine Below.then ?_ hb3 (by first | omega | (simp; done) | (simp; omega)) | refine Below.then ?_ hb2 (by first | omega | (simp; done) | (simp; omega)) | refine Below.then ?_ hb1 (by first | omega | (simp; done) | (simp; omega))))) (by first | omega | (simp; done) | (simp; omega))
  replace z0 := (hb2.frozen (p := ⟨w.heap.size + 1, 0, none⟩) (by show w.heap.size + 1 < _; omega)).trans z0
  go_wp2
  refine leaves_cons (f := 29) (args := #[.pointer (some ⟨w.heap.size + 1, 0, none⟩)]) (by simp) (by simp [go_sem]) ?_
  refine (caught_up (w.heap.size + 1) 0 m [] w2 e0 z0).mono ?_
  rintro e u' w'' ⟨rfl, rfl, rfl⟩
  have e1 := cell_put w2 ⟨w.heap.size + 1, 0, none⟩ (.int .i64 m) (by rw [e0]; rfl)
  simp [Leaves, settle, results, Try.results13, go_sem, e1]
  (repeat (first | exact Below.refl _ _ | (with_reducible assumption) | refine Below.drew ?_ | refine Below.drewN' ?_ _ | refine Below.alloc ?_ (by first | omega | (simp; done) | (simp; omega)) _ | refine Below.setCell ?_ (by first | omega | (simp; done) | (simp; omega)) _ | refine Below.then ?_ hb9 (by first | omega | (simp; done) | (simp; omega)) | refine Below.then ?_ hb8 (by first | omega | (simp; done) | (simp; omega)) | refine Below.then ?_ hb7 (by first | omega | (simp; done) | (simp; omega)) | refine Below.then ?_ hb6 (by first | omega | (simp; done) | (simp; omega)) | refine Below.then ?_ hb5 (by first | omega | (simp; done) | (simp; omega)) | refine Below.then ?_ hb4 (by first | omega | (simp; done) | (simp; omega)) | refine Below.then ?_ hb3 (by first | omega | (simp; done) | (simp; omega)) | refine Below.then ?_ hb2 (by first | omega | (simp; done) | (simp; omega)) | refine Below.then ?_ hb1 (by first | omega | (simp; done) | (simp; omega))))
end Go.Proofs.Ytiodkcecpnomcaa
