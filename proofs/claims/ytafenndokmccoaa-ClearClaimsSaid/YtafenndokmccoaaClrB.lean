/- The layer 'wipe': its machine's steps, one by one. -/
import Derived.Test.YtafenndokmccoaaClrA
namespace Go.Proofs.Ytafenndokmccoaa
open Go.RowKit
set_option linter.unusedVariables false
set_option linter.unusedSimpArgs false

set_option maxRecDepth 100000 in
set_option maxHeartbeats 1600000 in
theorem wWipe_calls (D : Nat → Prop) (p : Nat) (ro : Option Nat) (P : CPar) (hP : CPOk P) (a : Option Addr) (c : Nat) (nx la : Value) (s : CSt) (he : s.err = 0) (x : Int) (h0 : 0 ≤ x) (h1 : x ≤ P.sp + 10) (w : World) (h : MB w p P a c nx la false 0) (hD : ∀ k, D k → k < w.heap.size) (hr : ∀ g, ro = some g → g < w.heap.size) :
    Calls Try.prog 103 #[.pointer (some ⟨p, 0, none⟩), .int .i64 x] w (StPost D p ro P a c la w (cWipe P s x)) := by
  have lp := blk_lt h
  have hbo := cBase_range hP hP.f
  have hby := cBase_range hP (s := 1 - P.fr) (by have := hP.f; omega)
  have s4 := hP.s4
  have HH := Lib.hid h
  have HD := Lib.hid hD
  have HRo := Lib.hid hr
  clear h hD hr
  unfold StPost cWipe accV
  by_cases hx : P.sp ≤ x
  · rw [if_pos hx]
    have hT := Lib.hid (fun W h => wTell_calls p P a c nx la false 0 124 #[.pointer (some ⟨p, 0, none⟩)] #[] 1 1 0 0 W h)
    unfold accV at hT
    dsimp only
    go_enter Try.func103, Try.ntmps103
    go_wp2_with fail
    obtain ⟨A1, A2, X0⟩ := three_alloc w (.cells #[.pointer (some ⟨p, 0, none⟩)] 37) (.cells #[.int .i64 x] 3) (.cells #[.int .i64 0, .int .i64 0, .int .u64 0, .int .u64 0] 44)
    have M0 : MB (((w.alloc (.cells #[.pointer (some ⟨p, 0, none⟩)] 37)).alloc (.cells #[.int .i64 x] 3)).alloc (.cells #[.int .i64 0, .int .i64 0, .int .u64 0, .int .u64 0] 44)) p P a c nx la false 0 := blk_alloc (blk_alloc (blk_alloc HH.out _) _) _
    have hb0 : Below w.heap.size w (((w.alloc (.cells #[.pointer (some ⟨p, 0, none⟩)] 37)).alloc (.cells #[.int .i64 x] 3)).alloc (.cells #[.int .i64 0, .int .i64 0, .int .u64 0, .int .u64 0] 44)) := by (repeat (first | exact Below.refl _ _ | (with_reducible assumption) | refine Below.drew ?_ | refine Below.drewN' ?_ _ | refine Below.alloc ?_ (by first | omega | (simp; done) | (simp; omega)) _ | refine Below.setCell ?_ (by first | omega | (simp; done) | (simp; omega)) _ | refine Below.then ?_ hb9 (by first | omega | (simp; done) | (simp; omega)) | refine Below.then ?_ hb8 (by first | omega | (simp; done) | (simp; omega)) | refine Below.then ?_ hb7 (by first | omega | (simp; done) | (simp; omega)) | refine Below.then ?_ hb6 (by first | omega | (simp; done) | (simp; omega)) | refine Below.then ?_ hb5 (by first | omega | (simp; done) | (simp; omega)) | refine Below.then ?_ hb4 (by first | omega | (simp; done) | (simp; omega)) | refine Below.then ?_ hb3 (by first | omega | (simp; done) | (simp; omega)) | refine Below.then ?_ hb2 (by first | omega | (simp; done) | (simp; omega)) | refine Below.then ?_ hb1 (by first | omega | (simp; done) | (simp; omega))))
    have hz0 : w.heap.size + 2 < (((w.alloc (.cells #[.pointer (some ⟨p, 0, none⟩)] 37)).alloc (.cells #[.int .i64 x] 3)).alloc (.cells #[.int .i64 0, .int .i64 0, .int .u64 0, .int .u64 0] 44)).heap.size := by simp
    generalize (((w.alloc (.cells #[.pointer (some ⟨p, 0, none⟩)] 37)).alloc (.cells #[.int .i64 x] 3)).alloc (.cells #[.int .i64 0, .int .i64 0, .int .u64 0, .int .u64 0] 44)) = W0 at A1 A2 X0 M0 hb0 hz0 ⊢
    have q0 : W0.cell? ⟨w.heap.size, 0, none⟩ = some (.pointer (some ⟨p, 0, none⟩)) := blk_cell A1 0 _ rfl
    have q1 : W0.cell? ⟨w.heap.size + 1, 0, none⟩ = some (.int .i64 x) := blk_cell A2 0 _ rfl
    have m1 : W0.cell? ⟨p, 1, none⟩ = some (.int .i64 P.sp) := blk_cell M0 1 _ rfl
    go_quiet (fail)
    rename_i nq
    have A1' := blk_drewN A1 nq
    have A2' := blk_drewN A2 nq
    have X1 := blk_drewN X0 nq
    have M1 : MB (W0.drewN nq) p P a c nx la false 0 := blk_drewN M0 nq
    have hb1 : Below w.heap.size w (W0.drewN nq) := Below.drewN' hb0 nq
    have hz1 : w.heap.size + 2 < (W0.drewN nq).heap.size := Nat.lt_of_lt_of_le hz0 (Below.drewN' (Below.refl W0.heap.size W0) nq).size
    generalize W0.drewN nq = W1 at A1' A2' X1 M1 hb1 hz1 ⊢
    clear q0 q1 m1 A1 A2 X0 M0 hb0 hz0
    have q0 : W1.cell? ⟨w.heap.size, 0, none⟩ = some (.pointer (some ⟨p, 0, none⟩)) := blk_cell A1' 0 _ rfl
    have q1 : W1.cell? ⟨w.heap.size + 1, 0, none⟩ = some (.int .i64 x) := blk_cell A2' 0 _ rfl
    go_wp2_with fail
    refine (hT.out _ M1).mono ?_
    rintro r w9 ⟨rfl, ho9, M9⟩
    have X9 := ho9.blk (show ¬ w.heap.size + 2 = p by omega) X1
    have x0 : w9.cell? ⟨w.heap.size + 2, 0, none⟩ = some (.int .i64 0) := blk_cell X9 0 _ rfl
    have x1 : w9.cell? ⟨w.heap.size + 2, 1, none⟩ = some (.int .i64 0) := blk_cell X9 1 _ rfl
    have x2 : w9.cell? ⟨w.heap.size + 2, 2, none⟩ = some (.int .u64 0) := blk_cell X9 2 _ rfl
    have x3 : w9.cell? ⟨w.heap.size + 2, 3, none⟩ = some (.int .u64 0) := blk_cell X9 3 _ rfl
    have y0 := blk_fz X9 0
    have y1 := blk_fz X9 1
    have y2 := blk_fz X9 2
    have y3 := blk_fz X9 3
    have lX := blk_lt X9
    have hO9 : Only (· = p) w w9 := (Only.of hb1).trans ho9
    have HM9 := Lib.hid M9
    clear ho9 X9 X1 M1 hb1 M9 q0 q1 A1' A2'
    go_wp2
    refine bodyPost_ret (v := .tuple #[.agg #[.int .i64 1, .int .i64 1, .int .u64 0, .int .u64 0], .bool true]) (by simp [results, Try.results103, go_sem, World.cell?_setCell_same', cell_off, *]) rfl ⟨rfl, ?_⟩
    refine ⟨by (repeat (first | (with_reducible exact Only.refl _ _) | (with_reducible assumption) | (with_reducible refine Only.drew ?_) | (with_reducible refine Only.drewN ?_ _) | (with_reducible refine Only.alloc ?_ _) | (with_reducible refine Only.setCell ?_ (by first | exact .inl rfl | (right; first | omega | (simp; done) | (simp; omega)) | (left; simp; done)) _) | (with_reducible refine Only.then ?_ hb9) | (with_reducible refine Only.then ?_ hb8) | (with_reducible refine Only.then ?_ hb7) | (with_reducible refine Only.then ?_ hb6) | (with_reducible refine Only.then ?_ hb5) | (with_reducible refine Only.then ?_ hb4) | (with_reducible refine Only.then ?_ hb3) | (with_reducible refine Only.then ?_ hb2) | (with_reducible refine Only.then ?_ hb1))), nxTurn p, ?_, rfl⟩
    rw [he]
    (repeat (first | (with_reducible refine blk_drew ?_) | (with_reducible refine blk_alloc ?_ _) | (with_reducible refine blk_off ?_ _ _ (by first | omega | (simp; omega)))))
    exact HM9.out
  · rw [if_neg hx]
    have hT := Lib.hid (fun W h => wStore_calls p P a c nx la false 0 125 #[] #[.pointer (some ⟨w.heap.size, 0, none⟩), .pointer (some ⟨w.heap.size + 1, 0, none⟩)] (cBase P P.fr + x) W h)
    unfold accV at hT
    dsimp only
    have hw : IntKind.i64.wrap (cBase P P.fr + x) = cBase P P.fr + x := IntWalk.i64_in _ (by omega)
    have hmf : ∀ (fn : Fn) (first cap : Array Value) (w : World), (Instr.makeFunc fn first cap).run Try.prog w = .ok (.func fn first cap) w := fun _ _ _ _ => rfl
    go_enter Try.func103, Try.ntmps103
    go_wp2_with fail
    obtain ⟨A1, A2, X0⟩ := three_alloc w (.cells #[.pointer (some ⟨p, 0, none⟩)] 37) (.cells #[.int .i64 x] 3) (.cells #[.int .i64 0, .int .i64 0, .int .u64 0, .int .u64 0] 44)
    have M0 : MB (((w.alloc (.cells #[.pointer (some ⟨p, 0, none⟩)] 37)).alloc (.cells #[.int .i64 x] 3)).alloc (.cells #[.int .i64 0, .int .i64 0, .int .u64 0, .int .u64 0] 44)) p P a c nx la false 0 := blk_alloc (blk_alloc (blk_alloc HH.out _) _) _
    have hb0 : Below w.heap.size w (((w.alloc (.cells #[.pointer (some ⟨p, 0, none⟩)] 37)).alloc (.cells #[.int .i64 x] 3)).alloc (.cells #[.int .i64 0, .int .i64 0, .int .u64 0, .int .u64 0] 44)) := by (repeat (first | exact Below.refl _ _ | (with_reducible assumption) | refine Below.drew ?_ | refine Below.drewN' ?_ _ | refine Below.alloc ?_ (by first | omega | (simp; done) | (simp; omega)) _ | refine Below.setCell ?_ (by first | omega | (simp; done) | (simp; omega)) _ | refine Below.then ?_ hb9 (by first | omega | (simp; done) | (simp; omega)) | refine Below.then ?_ hb8 (by first | omega | (simp; done) | (simp; omega)) | refine Below.then ?_ hb7 (by first | omega | (simp; done) | (simp; omega)) | refine Below.then ?_ hb6 (by first | omega | (simp; done) | (simp; omega)) | refine Below.then ?_ hb5 (by first | omega | (simp; done) | (simp; omega)) | refine Below.then ?_ hb4 (by first | omega | (simp; done) | (simp; omega)) | refine Below.then ?_ hb3 (by first | omega | (simp; done) | (simp; omega)) | refine Below.then ?_ hb2 (by first | omega | (simp; done) | (simp; omega)) | refine Below.then ?_ hb1 (by first | omega | (simp; done) | (simp; omega))))
    have hz0 : w.heap.size + 2 < (((w.alloc (.cells #[.pointer (some ⟨p, 0, none⟩)] 37)).alloc (.cells #[.int .i64 x] 3)).alloc (.cells #[.int .i64 0, .int .i64 0, .int .u64 0, .int .u64 0] 44)).heap.size := by simp
    generalize (((w.alloc (.cells #[.pointer (some ⟨p, 0, none⟩)] 37)).alloc (.cells #[.int .i64 x] 3)).alloc (.cells #[.int .i64 0, .int .i64 0, .int .u64 0, .int .u64 0] 44)) = W0 at A1 A2 X0 M0 hb0 hz0 ⊢
    have q0 : W0.cell? ⟨w.heap.size, 0, none⟩ = some (.pointer (some ⟨p, 0, none⟩)) := blk_cell A1 0 _ rfl
    have q1 : W0.cell? ⟨w.heap.size + 1, 0, none⟩ = some (.int .i64 x) := blk_cell A2 0 _ rfl
    have m1 : W0.cell? ⟨p, 1, none⟩ = some (.int .i64 P.sp) := blk_cell M0 1 _ rfl
    go_quiet (fail)
    rename_i nq
    have A1' := blk_drewN A1 nq
    have A2' := blk_drewN A2 nq
    have X1 := blk_drewN X0 nq
    have M1 : MB (W0.drewN nq) p P a c nx la false 0 := blk_drewN M0 nq
    have hb1 : Below w.heap.size w (W0.drewN nq) := Below.drewN' hb0 nq
    have hz1 : w.heap.size + 2 < (W0.drewN nq).heap.size := Nat.lt_of_lt_of_le hz0 (Below.drewN' (Below.refl W0.heap.size W0) nq).size
    generalize W0.drewN nq = W1 at A1' A2' X1 M1 hb1 hz1 ⊢
    clear q0 q1 m1 A1 A2 X0 M0 hb0 hz0
    have q0 : W1.cell? ⟨w.heap.size, 0, none⟩ = some (.pointer (some ⟨p, 0, none⟩)) := blk_cell A1' 0 _ rfl
    have q1 : W1.cell? ⟨w.heap.size + 1, 0, none⟩ = some (.int .i64 x) := blk_cell A2' 0 _ rfl
    have m5 : W1.cell? ⟨p, 5, none⟩ = some (.int .i64 (cBase P P.fr)) := blk_cell M1 5 _ rfl
    go_wp2_with fail
    have hb1d : Below w.heap.size w W1.drew := Below.drew hb1
    have zw : W1.drew.heap.size = W1.heap.size := rfl
    have M1d : MB W1.drew p P a c nx la false 0 := blk_drew M1
    have hDd : ∀ k, D k → k < W1.drew.heap.size := fun k hk => Nat.lt_of_lt_of_le (HD.out k hk) hb1d.size
    have hrd : ∀ g, ro = some g → g < W1.drew.heap.size := fun g hg => Nat.lt_of_lt_of_le (HRo.out g hg) hb1d.size
    have d0 : W1.drew.cell? ⟨w.heap.size, 0, none⟩ = some (.pointer (some ⟨p, 0, none⟩)) := q0
    have d1 : W1.drew.cell? ⟨w.heap.size + 1, 0, none⟩ = some (.int .i64 x) := q1
    have d2 : W1.drew.cell? ⟨p, 5, none⟩ = some (.int .i64 (cBase P P.fr)) := m5
    have k0 := trivial
    have k1 := trivial
    have k2 := trivial
    go_region_held3 (fun A => A.cell? ⟨w.heap.size, 0, none⟩ = some (.pointer (some ⟨p, 0, none⟩)) ∧ A.cell? ⟨w.heap.size + 1, 0, none⟩ = some (.int .i64 x) ∧ A.cell? ⟨p, 5, none⟩ = some (.int .i64 (cBase P P.fr))) (first | (with_reducible exact ⟨d0, d1, d2⟩) | (with_reducible exact ⟨k0, k1, k2⟩) | (refine ⟨?_, ?_, ?_⟩ <;> (repeat (rw [cell_blk _ _ _ _ _ _ (by omega)])) <;> (first | exact k0 | exact k1 | exact k2))) (first | (go_at_call 108; refine (hT.out _ M1d).mono ?_; rintro r w9 ⟨rfl, ho9, M9, F9⟩; have k0 := blk_cell (ho9.blk (show ¬ w.heap.size = p by omega) A1') 0 _ rfl; have k1 := blk_cell (ho9.blk (show ¬ w.heap.size + 1 = p by omega) A2') 0 _ rfl; have k2 := blk_cell M9 5 _ rfl; have X9 := ho9.blk (show ¬ w.heap.size + 2 = p by omega) X1; have x0 : w9.cell? ⟨w.heap.size + 2, 0, none⟩ = some (.int .i64 0) := blk_cell X9 0 _ rfl; have x1 : w9.cell? ⟨w.heap.size + 2, 1, none⟩ = some (.int .i64 0) := blk_cell X9 1 _ rfl; have x2 : w9.cell? ⟨w.heap.size + 2, 2, none⟩ = some (.int .u64 0) := blk_cell X9 2 _ rfl; have x3 : w9.cell? ⟨w.heap.size + 2, 3, none⟩ = some (.int .u64 0) := blk_cell X9 3 _ rfl; have y0 := blk_fz X9 0; have y1 := blk_fz X9 1; have y2 := blk_fz X9 2; have y3 := blk_fz X9 3; have lX := blk_lt X9))
    have HO := Lib.hid ((Only.of hb1d).trans ho9)
    have HN := Lib.hid (show NxP w9 (fun k => (D k ∨ w.heap.size ≤ k) ∧ k ≠ w.heap.size + 2) p ro ⟨3, x + 1, s.was, s.err⟩ (fnStore1 W1.drew.heap.size) from
      ⟨W1.drew.heap.size, w.heap.size, w.heap.size + 1, x, rfl, ⟨⟨.inr (by omega), by omega⟩, by omega, fun e => by have := HRo.out _ e; omega, F9⟩, ⟨⟨.inr (by omega), by omega⟩, by omega, fun e => by have := HRo.out _ e; omega, ho9.blk (show ¬ w.heap.size = p by omega) A1'⟩, ⟨⟨.inr (by omega), by omega⟩, by omega, fun e => by have := HRo.out _ e; omega, ho9.blk (show ¬ w.heap.size + 1 = p by omega) A2'⟩, rfl⟩)
    have HM := Lib.hid M9
    clear F9 M9 ho9 q0 q1 m5 k0 k1 k2 d0 d1 d2 A1' A2' X1
    go_wp2
    refine bodyPost_ret (v := .tuple #[.agg #[.int .i64 2, .int .i64 (cBase P P.fr + x), .int .u64 0, .int .u64 0], .bool true]) (by simp [results, Try.results103, go_sem, World.cell?_setCell_same', cell_off, *]) rfl ⟨rfl, ?_⟩
    exact StTail.mk9 HO.out (by rw [he]; exact HM.out) HN.out (by omega) lp _ _ _ _
set_option maxRecDepth 100000 in
set_option maxHeartbeats 1600000 in
theorem wWalk_calls (D : Nat → Prop) (p : Nat) (ro : Option Nat) (P : CPar) (hP : CPOk P) (a : Option Addr) (c : Nat) (nx la : Value) (s : CSt) (he : s.err = 0) (x : Int) (h0 : 0 ≤ x) (h1 : x ≤ P.sp + 10) (w : World) (h : MB w p P a c nx la false 0) (hD : ∀ k, D k → k < w.heap.size) (hr : ∀ g, ro = some g → g < w.heap.size) :
    Calls Try.prog 80 #[.pointer (some ⟨p, 0, none⟩), .int .i64 x] w (StPost D p ro P a c la w (cWalk P s x)) := by
  have lp := blk_lt h
  have hbo := cBase_range hP hP.f
  have hby := cBase_range hP (s := 1 - P.fr) (by have := hP.f; omega)
  have s4 := hP.s4
  have HH := Lib.hid h
  have HD := Lib.hid hD
  have HRo := Lib.hid hr
  clear h hD hr
  unfold cWalk
  by_cases hx : P.sp ≤ x
  · rw [if_pos hx]
    have HW := fun W h hD hr => wWipe_calls D p ro P hP a c nx la s he 0 (by omega) (by omega) W h hD hr
    unfold StPost accV at HW
    unfold StPost accV
    generalize cWipe P s 0 = r0 at HW ⊢
    have HW := Lib.hid HW
    go_enter Try.func80, Try.ntmps80
    go_wp2_with fail
    obtain ⟨A1, A2, X0⟩ := three_alloc w (.cells #[.pointer (some ⟨p, 0, none⟩)] 37) (.cells #[.int .i64 x] 3) (.cells #[.int .i64 0, .int .i64 0, .int .u64 0, .int .u64 0] 44)
    have M0 : MB (((w.alloc (.cells #[.pointer (some ⟨p, 0, none⟩)] 37)).alloc (.cells #[.int .i64 x] 3)).alloc (.cells #[.int .i64 0, .int .i64 0, .int .u64 0, .int .u64 0] 44)) p P a c nx la false 0 := blk_alloc (blk_alloc (blk_alloc HH.out _) _) _
    have hb0 : Below w.heap.size w (((w.alloc (.cells #[.pointer (some ⟨p, 0, none⟩)] 37)).alloc (.cells #[.int .i64 x] 3)).alloc (.cells #[.int .i64 0, .int .i64 0, .int .u64 0, .int .u64 0] 44)) := by (repeat (first | exact Below.refl _ _ | (with_reducible assumption) | refine Below.drew ?_ | refine Below.drewN' ?_ _ | refine Below.alloc ?_ (by first | omega | (simp; done) | (simp; omega)) _ | refine Below.setCell ?_ (by first | omega | (simp; done) | (simp; omega)) _ | refine Below.then ?_ hb9 (by first | omega | (simp; done) | (simp; omega)) | refine Below.then ?_ hb8 (by first | omega | (simp; done) | (simp; omega)) | refine Below.then ?_ hb7 (by first | omega | (simp; done) | (simp; omega)) | refine Below.then ?_ hb6 (by first | omega | (simp; done) | (simp; omega)) | refine Below.then ?_ hb5 (by first | omega | (simp; done) | (simp; omega)) | refine Below.then ?_ hb4 (by first | omega | (simp; done) | (simp; omega)) | refine Below.then ?_ hb3 (by first | omega | (simp; done) | (simp; omega)) | refine Below.then ?_ hb2 (by first | omega | (simp; done) | (simp; omega)) | refine Below.then ?_ hb1 (by first | omega | (simp; done) | (simp; omega))))
    have hz0 : w.heap.size + 2 < (((w.alloc (.cells #[.pointer (some ⟨p, 0, none⟩)] 37)).alloc (.cells #[.int .i64 x] 3)).alloc (.cells #[.int .i64 0, .int .i64 0, .int .u64 0, .int .u64 0] 44)).heap.size := by simp
    generalize (((w.alloc (.cells #[.pointer (some ⟨p, 0, none⟩)] 37)).alloc (.cells #[.int .i64 x] 3)).alloc (.cells #[.int .i64 0, .int .i64 0, .int .u64 0, .int .u64 0] 44)) = W0 at A1 A2 X0 M0 hb0 hz0 ⊢
    have q0 : W0.cell? ⟨w.heap.size, 0, none⟩ = some (.pointer (some ⟨p, 0, none⟩)) := blk_cell A1 0 _ rfl
    have q1 : W0.cell? ⟨w.heap.size + 1, 0, none⟩ = some (.int .i64 x) := blk_cell A2 0 _ rfl
    have m1 : W0.cell? ⟨p, 1, none⟩ = some (.int .i64 P.sp) := blk_cell M0 1 _ rfl
    go_quiet (fail)
    rename_i nq
    have A1' := blk_drewN A1 nq
    have A2' := blk_drewN A2 nq
    have X1 := blk_drewN X0 nq
    have M1 : MB (W0.drewN nq) p P a c nx la false 0 := blk_drewN M0 nq
    have hb1 : Below w.heap.size w (W0.drewN nq) := Below.drewN' hb0 nq
    have hz1 : w.heap.size + 2 < (W0.drewN nq).heap.size := Nat.lt_of_lt_of_le hz0 (Below.drewN' (Below.refl W0.heap.size W0) nq).size
    generalize W0.drewN nq = W1 at A1' A2' X1 M1 hb1 hz1 ⊢
    clear q0 q1 m1 A1 A2 X0 M0 hb0 hz0
    have q0 : W1.cell? ⟨w.heap.size, 0, none⟩ = some (.pointer (some ⟨p, 0, none⟩)) := blk_cell A1' 0 _ rfl
    have q1 : W1.cell? ⟨w.heap.size + 1, 0, none⟩ = some (.int .i64 x) := blk_cell A2' 0 _ rfl
    have hD1 : ∀ k, D k → k < W1.heap.size := fun k hk => Nat.lt_of_lt_of_le (HD.out k hk) hb1.size
    have hr1 : ∀ g, ro = some g → g < W1.heap.size := fun g hg => Nat.lt_of_lt_of_le (HRo.out g hg) hb1.size
    go_wp2_with fail
    refine (HW.out _ M1 hD1 hr1).mono ?_
    rintro r w9 ⟨rfl, ho9, nx9, M9, N9⟩
    have hS : StTail D p ro P a c la W1 r0.st w9 := ⟨ho9, nx9, M9, N9⟩
    have X9 := ho9.blk (show ¬ w.heap.size + 2 = p by omega) X1
    have x0 : w9.cell? ⟨w.heap.size + 2, 0, none⟩ = some (.int .i64 0) := blk_cell X9 0 _ rfl
    have x1 : w9.cell? ⟨w.heap.size + 2, 1, none⟩ = some (.int .i64 0) := blk_cell X9 1 _ rfl
    have x2 : w9.cell? ⟨w.heap.size + 2, 2, none⟩ = some (.int .u64 0) := blk_cell X9 2 _ rfl
    have x3 : w9.cell? ⟨w.heap.size + 2, 3, none⟩ = some (.int .u64 0) := blk_cell X9 3 _ rfl
    have y0 := blk_fz X9 0
    have y1 := blk_fz X9 1
    have y2 := blk_fz X9 2
    have y3 := blk_fz X9 3
    have lX := blk_lt X9
    have HS := Lib.hid hS
    clear X9 X1 hS ho9 M9 N9
    go_wp2
    refine bodyPost_ret (v := .tuple #[.agg #[.int .i64 r0.k, .int .i64 r0.a, .int .u64 r0.o, .int .u64 r0.n], .bool r0.is]) (by simp [results, Try.results80, go_sem, World.cell?_setCell_same', cell_off, *]) rfl ⟨rfl, ?_⟩
    exact HS.out.off hb1 HD.out lp (by omega) (by omega) _ _ _ _
  · rw [if_neg hx]
    unfold StPost accV
    have hT := Lib.hid (fun W h => wTell_calls p P a c nx la false 0 105 #[] #[.pointer (some ⟨w.heap.size, 0, none⟩), .pointer (some ⟨w.heap.size + 1, 0, none⟩)] 1 (cBase P (1 - P.fr) + x) 0 0 W h)
    unfold accV at hT
    dsimp only
    have hw : IntKind.i64.wrap (cBase P (1 - P.fr) + x) = cBase P (1 - P.fr) + x := IntWalk.i64_in _ (by omega)
    have hmf : ∀ (fn : Fn) (first cap : Array Value) (w : World), (Instr.makeFunc fn first cap).run Try.prog w = .ok (.func fn first cap) w := fun _ _ _ _ => rfl
    go_enter Try.func80, Try.ntmps80
    go_wp2_with fail
    obtain ⟨A1, A2, X0⟩ := three_alloc w (.cells #[.pointer (some ⟨p, 0, none⟩)] 37) (.cells #[.int .i64 x] 3) (.cells #[.int .i64 0, .int .i64 0, .int .u64 0, .int .u64 0] 44)
    have M0 : MB (((w.alloc (.cells #[.pointer (some ⟨p, 0, none⟩)] 37)).alloc (.cells #[.int .i64 x] 3)).alloc (.cells #[.int .i64 0, .int .i64 0, .int .u64 0, .int .u64 0] 44)) p P a c nx la false 0 := blk_alloc (blk_alloc (blk_alloc HH.out _) _) _
    have hb0 : Below w.heap.size w (((w.alloc (.cells #[.pointer (some ⟨p, 0, none⟩)] 37)).alloc (.cells #[.int .i64 x] 3)).alloc (.cells #[.int .i64 0, .int .i64 0, .int .u64 0, .int .u64 0] 44)) := by (repeat (first | exact Below.refl _ _ | (with_reducible assumption) | refine Below.drew ?_ | refine Below.drewN' ?_ _ | refine Below.alloc ?_ (by first | omega | (simp; done) | (simp; omega)) _ | refine Below.setCell ?_ (by first | omega | (simp; done) | (simp; omega)) _ | refine Below.then ?_ hb9 (by first | omega | (simp; done) | (simp; omega)) | refine Below.then ?_ hb8 (by first | omega | (simp; done) | (simp; omega)) | refine Below.then ?_ hb7 (by first | omega | (simp; done) | (simp; omega)) | refine Below.then ?_ hb6 (by first | omega | (simp; done) | (simp; omega)) | refine Below.then ?_ hb5 (by first | omega | (simp; done) | (simp; omega)) | refine Below.then ?_ hb4 (by first | omega | (simp; done) | (simp; omega)) | refine Below.then ?_ hb3 (by first | omega | (simp; done) | (simp; omega)) | refine Below.then ?_ hb2 (by first | omega | (simp; done) | (simp; omega)) | refine Below.then ?_ hb1 (by first | omega | (simp; done) | (simp; omega))))
    have hz0 : w.heap.size + 2 < (((w.alloc (.cells #[.pointer (some ⟨p, 0, none⟩)] 37)).alloc (.cells #[.int .i64 x] 3)).alloc (.cells #[.int .i64 0, .int .i64 0, .int .u64 0, .int .u64 0] 44)).heap.size := by simp
    generalize (((w.alloc (.cells #[.pointer (some ⟨p, 0, none⟩)] 37)).alloc (.cells #[.int .i64 x] 3)).alloc (.cells #[.int .i64 0, .int .i64 0, .int .u64 0, .int .u64 0] 44)) = W0 at A1 A2 X0 M0 hb0 hz0 ⊢
    have q0 : W0.cell? ⟨w.heap.size, 0, none⟩ = some (.pointer (some ⟨p, 0, none⟩)) := blk_cell A1 0 _ rfl
    have q1 : W0.cell? ⟨w.heap.size + 1, 0, none⟩ = some (.int .i64 x) := blk_cell A2 0 _ rfl
    have m1 : W0.cell? ⟨p, 1, none⟩ = some (.int .i64 P.sp) := blk_cell M0 1 _ rfl
    go_quiet (fail)
    rename_i nq
    have A1' := blk_drewN A1 nq
    have A2' := blk_drewN A2 nq
    have X1 := blk_drewN X0 nq
    have M1 : MB (W0.drewN nq) p P a c nx la false 0 := blk_drewN M0 nq
    have hb1 : Below w.heap.size w (W0.drewN nq) := Below.drewN' hb0 nq
    have hz1 : w.heap.size + 2 < (W0.drewN nq).heap.size := Nat.lt_of_lt_of_le hz0 (Below.drewN' (Below.refl W0.heap.size W0) nq).size
    generalize W0.drewN nq = W1 at A1' A2' X1 M1 hb1 hz1 ⊢
    clear q0 q1 m1 A1 A2 X0 M0 hb0 hz0
    have q0 : W1.cell? ⟨w.heap.size, 0, none⟩ = some (.pointer (some ⟨p, 0, none⟩)) := blk_cell A1' 0 _ rfl
    have q1 : W1.cell? ⟨w.heap.size + 1, 0, none⟩ = some (.int .i64 x) := blk_cell A2' 0 _ rfl
    have m6 : W1.cell? ⟨p, 6, none⟩ = some (.int .i64 (cBase P (1 - P.fr))) := blk_cell M1 6 _ rfl
    go_wp2_with fail
    have hb1d : Below w.heap.size w W1.drew := Below.drew hb1
    have zw : W1.drew.heap.size = W1.heap.size := rfl
    have M1d : MB W1.drew p P a c nx la false 0 := blk_drew M1
    have hDd : ∀ k, D k → k < W1.drew.heap.size := fun k hk => Nat.lt_of_lt_of_le (HD.out k hk) hb1d.size
    have hrd : ∀ g, ro = some g → g < W1.drew.heap.size := fun g hg => Nat.lt_of_lt_of_le (HRo.out g hg) hb1d.size
    have d0 : W1.drew.cell? ⟨w.heap.size, 0, none⟩ = some (.pointer (some ⟨p, 0, none⟩)) := q0
    have d1 : W1.drew.cell? ⟨w.heap.size + 1, 0, none⟩ = some (.int .i64 x) := q1
    have d2 : W1.drew.cell? ⟨p, 6, none⟩ = some (.int .i64 (cBase P (1 - P.fr))) := m6
    have k0 := trivial
    have k1 := trivial
    have k2 := trivial
    go_region_held3 (fun A => A.cell? ⟨w.heap.size, 0, none⟩ = some (.pointer (some ⟨p, 0, none⟩)) ∧ A.cell? ⟨w.heap.size + 1, 0, none⟩ = some (.int .i64 x) ∧ A.cell? ⟨p, 6, none⟩ = some (.int .i64 (cBase P (1 - P.fr)))) (first | (with_reducible exact ⟨d0, d1, d2⟩) | (with_reducible exact ⟨k0, k1, k2⟩) | (refine ⟨?_, ?_, ?_⟩ <;> (repeat (rw [cell_blk _ _ _ _ _ _ (by omega)])) <;> (first | exact k0 | exact k1 | exact k2))) (first | (go_at_call 104; refine (hT.out _ M1d).mono ?_; rintro r w9 ⟨rfl, ho9, M9⟩; have k0 := blk_cell (ho9.blk (show ¬ w.heap.size = p by omega) A1') 0 _ rfl; have k1 := blk_cell (ho9.blk (show ¬ w.heap.size + 1 = p by omega) A2') 0 _ rfl; have k2 := blk_cell M9 6 _ rfl; have X9 := ho9.blk (show ¬ w.heap.size + 2 = p by omega) X1; have x0 : w9.cell? ⟨w.heap.size + 2, 0, none⟩ = some (.int .i64 0) := blk_cell X9 0 _ rfl; have x1 : w9.cell? ⟨w.heap.size + 2, 1, none⟩ = some (.int .i64 0) := blk_cell X9 1 _ rfl; have x2 : w9.cell? ⟨w.heap.size + 2, 2, none⟩ = some (.int .u64 0) := blk_cell X9 2 _ rfl; have x3 : w9.cell? ⟨w.heap.size + 2, 3, none⟩ = some (.int .u64 0) := blk_cell X9 3 _ rfl; have y0 := blk_fz X9 0; have y1 := blk_fz X9 1; have y2 := blk_fz X9 2; have y3 := blk_fz X9 3; have lX := blk_lt X9))
    have HO := Lib.hid ((Only.of hb1d).trans ho9)
    have HN := Lib.hid (show NxP w9 (fun k => (D k ∨ w.heap.size ≤ k) ∧ k ≠ w.heap.size + 2) p ro ⟨1, x, s.was, s.err⟩ (fnWalk1 w.heap.size (w.heap.size + 1)) from
      ⟨w.heap.size, w.heap.size + 1, rfl, ⟨⟨.inr (by omega), by omega⟩, by omega, fun e => by have := HRo.out _ e; omega, ho9.blk (show ¬ w.heap.size = p by omega) A1'⟩, ⟨⟨.inr (by omega), by omega⟩, by omega, fun e => by have := HRo.out _ e; omega, ho9.blk (show ¬ w.heap.size + 1 = p by omega) A2'⟩⟩)
    have HM := Lib.hid M9
    clear M9 ho9 q0 q1 m6 k0 k1 k2 d0 d1 d2 A1' A2' X1
    go_wp2
    refine bodyPost_ret (v := .tuple #[.agg #[.int .i64 1, .int .i64 (cBase P (1 - P.fr) + x), .int .u64 0, .int .u64 0], .bool true]) (by simp [results, Try.results80, go_sem, World.cell?_setCell_same', cell_off, *]) rfl ⟨rfl, ?_⟩
    exact StTail.mk9 HO.out (by rw [he]; exact HM.out) HN.out (by omega) lp _ _ _ _
set_option maxRecDepth 100000 in
set_option maxHeartbeats 1600000 in
theorem wBegin_calls (D : Nat → Prop) (p : Nat) (ro : Option Nat) (P : CPar) (hP : CPOk P) (a : Option Addr) (c : Nat) (nx la : Value) (s : CSt) (he : s.err = 0) (ans : Int) (w : World) (h : MB w p P a c nx la false 0) (hD : ∀ k, D k → k < w.heap.size) (hr : ∀ g, ro = some g → g < w.heap.size) :
    Calls Try.prog 51 #[.pointer (some ⟨p, 0, none⟩), .int .u64 ans] w (StPost D p ro P a c la w (cWalk P s P.hi)) := by
  have lp := blk_lt h
  have hbo := cBase_range hP hP.f
  have hby := cBase_range hP (s := 1 - P.fr) (by have := hP.f; omega)
  have s4 := hP.s4
  have HH := Lib.hid h
  have HD := Lib.hid hD
  have HRo := Lib.hid hr
  clear h hD hr
  have h5 := hP.h0
  have h6 := hP.h1
  have HW := fun W h hD hr => wWalk_calls D p ro P hP a c nx la s he P.hi (by omega) (by omega) W h hD hr
  unfold StPost accV at HW
  unfold StPost accV
  generalize cWalk P s P.hi = r0 at HW ⊢
  have HW := Lib.hid HW
  have m4 : w.cell? ⟨p, 4, none⟩ = some (.int .i64 P.hi) := blk_cell HH.out 4 _ rfl
  go_enter Try.func51, Try.ntmps51
  go_wp2_with fail
  have X1 : (w.alloc (.cells #[.int .i64 0, .int .i64 0, .int .u64 0, .int .u64 0] 44)).heap[w.heap.size]? = some (.cells #[.int .i64 0, .int .i64 0, .int .u64 0, .int .u64 0] 44 (0, 0)) := (MapKept.heap_alloc w _).1
  have M1 : MB (w.alloc (.cells #[.int .i64 0, .int .i64 0, .int .u64 0, .int .u64 0] 44)) p P a c nx la false 0 := blk_alloc HH.out _
  have hb1 : Below w.heap.size w (w.alloc (.cells #[.int .i64 0, .int .i64 0, .int .u64 0, .int .u64 0] 44)) := by (repeat (first | exact Below.refl _ _ | (with_reducible assumption) | refine Below.drew ?_ | refine Below.drewN' ?_ _ | refine Below.alloc ?_ (by first | omega | (simp; done) | (simp; omega)) _ | refine Below.setCell ?_ (by first | omega | (simp; done) | (simp; omega)) _ | refine Below.then ?_ hb9 (by first | omega | (simp; done) | (simp; omega)) | refine Below.then ?_ hb8 (by first | omega | (simp; done) | (simp; omega)) | refine Below.then ?_ hb7 (by first | omega | (simp; done) | (simp; omega)) | refine Below.then ?_ hb6 (by first | omega | (simp; done) | (simp; omega)) | refine Below.then ?_ hb5 (by first | omega | (simp; done) | (simp; omega)) | refine Below.then ?_ hb4 (by first | omega | (simp; done) | (simp; omega)) | refine Below.then ?_ hb3 (by first | omega | (simp; done) | (simp; omega)) | refine Below.then ?_ hb2 (by first | omega | (simp; done) | (simp; omega)) | refine Below.then ?_ hb1 (by first | omega | (simp; done) | (simp; omega))))
  have hz1 : w.heap.size < (w.alloc (.cells #[.int .i64 0, .int .i64 0, .int .u64 0, .int .u64 0] 44)).heap.size := by simp
  have hD1 : ∀ k, D k → k < (w.alloc (.cells #[.int .i64 0, .int .i64 0, .int .u64 0, .int .u64 0] 44)).heap.size := fun k hk => Nat.lt_of_lt_of_le (HD.out k hk) hb1.size
  have hr1 : ∀ g, ro = some g → g < (w.alloc (.cells #[.int .i64 0, .int .i64 0, .int .u64 0, .int .u64 0] 44)).heap.size := fun g hg => Nat.lt_of_lt_of_le (HRo.out g hg) hb1.size
  generalize (w.alloc (.cells #[.int .i64 0, .int .i64 0, .int .u64 0, .int .u64 0] 44)) = W1 at X1 M1 hb1 hz1 hD1 hr1 ⊢
  refine (HW.out _ M1 hD1 hr1).mono ?_
  rintro r w9 ⟨rfl, ho9, nx9, M9, N9⟩
  have hS : StTail D p ro P a c la W1 r0.st w9 := ⟨ho9, nx9, M9, N9⟩
  have X9 := ho9.blk (show ¬ w.heap.size = p by omega) X1
  have x0 : w9.cell? ⟨w.heap.size, 0, none⟩ = some (.int .i64 0) := blk_cell X9 0 _ rfl
  have x1 : w9.cell? ⟨w.heap.size, 1, none⟩ = some (.int .i64 0) := blk_cell X9 1 _ rfl
  have x2 : w9.cell? ⟨w.heap.size, 2, none⟩ = some (.int .u64 0) := blk_cell X9 2 _ rfl
  have x3 : w9.cell? ⟨w.heap.size, 3, none⟩ = some (.int .u64 0) := blk_cell X9 3 _ rfl
  have y0 := blk_fz X9 0
  have y1 := blk_fz X9 1
  have y2 := blk_fz X9 2
  have y3 := blk_fz X9 3
  have lX := blk_lt X9
  have HS := Lib.hid hS
  clear X9 X1 hS ho9 M9 N9
  go_wp2
  refine bodyPost_ret (v := .tuple #[.agg #[.int .i64 r0.k, .int .i64 r0.a, .int .u64 r0.o, .int .u64 r0.n], .bool r0.is]) (by simp [results, Try.results51, go_sem, World.cell?_setCell_same', cell_off, *]) rfl ⟨rfl, ?_⟩
  exact HS.out.off hb1 HD.out lp (by omega) (by omega) _ _ _ _
set_option maxRecDepth 100000 in
set_option maxHeartbeats 1600000 in
theorem wWalk11_calls (D : Nat → Prop) (p : Nat) (ro : Option Nat) (P : CPar) (hP : CPOk P) (a : Option Addr) (c : Nat) (nx la : Value) (s : CSt) (he : s.err = 0) (pm pa pn : Nat) (x n y : Int) (hy : x + n = y) (h0 : 0 ≤ y) (h1 : y ≤ P.sp + 10) (w : World) (h : MB w p P a c nx la false 0) (hD : ∀ k, D k → k < w.heap.size) (hr : ∀ g, ro = some g → g < w.heap.size) (hm : w.heap[pm]? = some (PtO p)) (ha : w.heap[pa]? = some (InO x)) (hn : w.heap[pn]? = some (InO n)) :
    Calls Try.prog 109 #[.pointer (some ⟨pm, 0, none⟩), .pointer (some ⟨pa, 0, none⟩), .pointer (some ⟨pn, 0, none⟩)] w (StPost D p ro P a c la w (cWalk P s y)) := by
  have lp := blk_lt h
  have hbo := cBase_range hP hP.f
  have hby := cBase_range hP (s := 1 - P.fr) (by have := hP.f; omega)
  have s4 := hP.s4
  have HH := Lib.hid h
  have HD := Lib.hid hD
  have HRo := Lib.hid hr
  clear h hD hr
  have HW := fun W h hD hr => wWalk_calls D p ro P hP a c nx la s he y h0 h1 W h hD hr
  unfold StPost accV at HW
  unfold StPost accV
  generalize cWalk P s y = r0 at HW ⊢
  have HW := Lib.hid HW
  have q0 : w.cell? ⟨pm, 0, none⟩ = some (.pointer (some ⟨p, 0, none⟩)) := blk_cell hm 0 _ rfl
  have q1 : w.cell? ⟨pa, 0, none⟩ = some (.int .i64 x) := blk_cell ha 0 _ rfl
  have q2 : w.cell? ⟨pn, 0, none⟩ = some (.int .i64 n) := blk_cell hn 0 _ rfl
  have l0 := blk_lt hm
  have l1 := blk_lt ha
  have l2 := blk_lt hn
  have hw : IntKind.i64.wrap (x + n) = y := (IntWalk.i64_in _ (by omega)).trans hy
  clear hm ha hn hy
  go_enter Try.func109, Try.ntmps109
  go_wp2_with fail
  have X1 : (w.alloc (.cells #[.int .i64 0, .int .i64 0, .int .u64 0, .int .u64 0] 44)).heap[w.heap.size]? = some (.cells #[.int .i64 0, .int .i64 0, .int .u64 0, .int .u64 0] 44 (0, 0)) := (MapKept.heap_alloc w _).1
  have M1 : MB (w.alloc (.cells #[.int .i64 0, .int .i64 0, .int .u64 0, .int .u64 0] 44)) p P a c nx la false 0 := blk_alloc HH.out _
  have hb1 : Below w.heap.size w (w.alloc (.cells #[.int .i64 0, .int .i64 0, .int .u64 0, .int .u64 0] 44)) := by (repeat (first | exact Below.refl _ _ | (with_reducible assumption) | refine Below.drew ?_ | refine Below.drewN' ?_ _ | refine Below.alloc ?_ (by first | omega | (simp; done) | (simp; omega)) _ | refine Below.setCell ?_ (by first | omega | (simp; done) | (simp; omega)) _ | refine Below.then ?_ hb9 (by first | omega | (simp; done) | (simp; omega)) | refine Below.then ?_ hb8 (by first | omega | (simp; done) | (simp; omega)) | refine Below.then ?_ hb7 (by first | omega | (simp; done) | (simp; omega)) | refine Below.then ?_ hb6 (by first | omega | (simp; done) | (simp; omega)) | refine Below.then ?_ hb5 (by first | omega | (simp; done) | (simp; omega)) | refine Below.then ?_ hb4 (by first | omega | (simp; done) | (simp; omega)) | refine Below.then ?_ hb3 (by first | omega | (simp; done) | (simp; omega)) | refine Below.then ?_ hb2 (by first | omega | (simp; done) | (simp; omega)) | refine Below.then ?_ hb1 (by first | omega | (simp; done) | (simp; omega))))
  have hz1 : w.heap.size < (w.alloc (.cells #[.int .i64 0, .int .i64 0, .int .u64 0, .int .u64 0] 44)).heap.size := by simp
  have hD1 : ∀ k, D k → k < (w.alloc (.cells #[.int .i64 0, .int .i64 0, .int .u64 0, .int .u64 0] 44)).heap.size := fun k hk => Nat.lt_of_lt_of_le (HD.out k hk) hb1.size
  have hr1 : ∀ g, ro = some g → g < (w.alloc (.cells #[.int .i64 0, .int .i64 0, .int .u64 0, .int .u64 0] 44)).heap.size := fun g hg => Nat.lt_of_lt_of_le (HRo.out g hg) hb1.size
  generalize (w.alloc (.cells #[.int .i64 0, .int .i64 0, .int .u64 0, .int .u64 0] 44)) = W1 at X1 M1 hb1 hz1 hD1 hr1 ⊢
  refine (HW.out _ M1 hD1 hr1).mono ?_
  rintro r w9 ⟨rfl, ho9, nx9, M9, N9⟩
  have hS : StTail D p ro P a c la W1 r0.st w9 := ⟨ho9, nx9, M9, N9⟩
  have X9 := ho9.blk (show ¬ w.heap.size = p by omega) X1
  have x0 : w9.cell? ⟨w.heap.size, 0, none⟩ = some (.int .i64 0) := blk_cell X9 0 _ rfl
  have x1 : w9.cell? ⟨w.heap.size, 1, none⟩ = some (.int .i64 0) := blk_cell X9 1 _ rfl
  have x2 : w9.cell? ⟨w.heap.size, 2, none⟩ = some (.int .u64 0) := blk_cell X9 2 _ rfl
  have x3 : w9.cell? ⟨w.heap.size, 3, none⟩ = some (.int .u64 0) := blk_cell X9 3 _ rfl
  have y0 := blk_fz X9 0
  have y1 := blk_fz X9 1
  have y2 := blk_fz X9 2
  have y3 := blk_fz X9 3
  have lX := blk_lt X9
  have HS := Lib.hid hS
  clear X9 X1 hS ho9 M9 N9
  go_wp2
  refine bodyPost_ret (v := .tuple #[.agg #[.int .i64 r0.k, .int .i64 r0.a, .int .u64 r0.o, .int .u64 r0.n], .bool r0.is]) (by simp [results, Try.results109, go_sem, World.cell?_setCell_same', cell_off, *]) rfl ⟨rfl, ?_⟩
  exact HS.out.off hb1 HD.out lp (by omega) (by omega) _ _ _ _
set_option maxRecDepth 100000 in
set_option maxHeartbeats 1600000 in
theorem wWipe1_calls (D : Nat → Prop) (p : Nat) (ro : Option Nat) (P : CPar) (hP : CPOk P) (a : Option Addr) (c : Nat) (nx la : Value) (s : CSt) (he : s.err = 0) (pm pa : Nat) (x y : Int) (hy : x + 1 = y) (h0 : 0 ≤ y) (h1 : y ≤ P.sp + 10) (w : World) (h : MB w p P a c nx la false 0) (hD : ∀ k, D k → k < w.heap.size) (hr : ∀ g, ro = some g → g < w.heap.size) (hm : w.heap[pm]? = some (PtO p)) (ha : w.heap[pa]? = some (InO x)) :
    Calls Try.prog 125 #[.pointer (some ⟨pm, 0, none⟩), .pointer (some ⟨pa, 0, none⟩)] w (StPost D p ro P a c la w (cWipe P s y)) := by
  have lp := blk_lt h
  have hbo := cBase_range hP hP.f
  have hby := cBase_range hP (s := 1 - P.fr) (by have := hP.f; omega)
  have s4 := hP.s4
  have HH := Lib.hid h
  have HD := Lib.hid hD
  have HRo := Lib.hid hr
  clear h hD hr
  have HW := fun W h hD hr => wWipe_calls D p ro P hP a c nx la s he y h0 h1 W h hD hr
  unfold StPost accV at HW
  unfold StPost accV
  generalize cWipe P s y = r0 at HW ⊢
  have HW := Lib.hid HW
  have q0 : w.cell? ⟨pm, 0, none⟩ = some (.pointer (some ⟨p, 0, none⟩)) := blk_cell hm 0 _ rfl
  have q1 : w.cell? ⟨pa, 0, none⟩ = some (.int .i64 x) := blk_cell ha 0 _ rfl
  have l0 := blk_lt hm
  have l1 := blk_lt ha
  have hw : IntKind.i64.wrap (x + 1) = y := (IntWalk.i64_in _ (by omega)).trans hy
  clear hm ha hy
  go_enter Try.func125, Try.ntmps125
  go_wp2_with fail
  have X1 : (w.alloc (.cells #[.int .i64 0, .int .i64 0, .int .u64 0, .int .u64 0] 44)).heap[w.heap.size]? = some (.cells #[.int .i64 0, .int .i64 0, .int .u64 0, .int .u64 0] 44 (0, 0)) := (MapKept.heap_alloc w _).1
  have M1 : MB (w.alloc (.cells #[.int .i64 0, .int .i64 0, .int .u64 0, .int .u64 0] 44)) p P a c nx la false 0 := blk_alloc HH.out _
  have hb1 : Below w.heap.size w (w.alloc (.cells #[.int .i64 0, .int .i64 0, .int .u64 0, .int .u64 0] 44)) := by (repeat (first | exact Below.refl _ _ | (with_reducible assumption) | refine Below.drew ?_ | refine Below.drewN' ?_ _ | refine Below.alloc ?_ (by first | omega | (simp; done) | (simp; omega)) _ | refine Below.setCell ?_ (by first | omega | (simp; done) | (simp; omega)) _ | refine Below.then ?_ hb9 (by first | omega | (simp; done) | (simp; omega)) | refine Below.then ?_ hb8 (by first | omega | (simp; done) | (simp; omega)) | refine Below.then ?_ hb7 (by first | omega | (simp; done) | (simp; omega)) | refine Below.then ?_ hb6 (by first | omega | (simp; done) | (simp; omega)) | refine Below.then ?_ hb5 (by first | omega | (simp; done) | (simp; omega)) | refine Below.then ?_ hb4 (by first | omega | (simp; done) | (simp; omega)) | refine Below.then ?_ hb3 (by first | omega | (simp; done) | (simp; omega)) | refine Below.then ?_ hb2 (by first | omega | (simp; done) | (simp; omega)) | refine Below.then ?_ hb1 (by first | omega | (simp; done) | (simp; omega))))
  have hz1 : w.heap.size < (w.alloc (.cells #[.int .i64 0, .int .i64 0, .int .u64 0, .int .u64 0] 44)).heap.size := by simp
  have hD1 : ∀ k, D k → k < (w.alloc (.cells #[.int .i64 0, .int .i64 0, .int .u64 0, .int .u64 0] 44)).heap.size := fun k hk => Nat.lt_of_lt_of_le (HD.out k hk) hb1.size
  have hr1 : ∀ g, ro = some g → g < (w.alloc (.cells #[.int .i64 0, .int .i64 0, .int .u64 0, .int .u64 0] 44)).heap.size := fun g hg => Nat.lt_of_lt_of_le (HRo.out g hg) hb1.size
  generalize (w.alloc (.cells #[.int .i64 0, .int .i64 0, .int .u64 0, .int .u64 0] 44)) = W1 at X1 M1 hb1 hz1 hD1 hr1 ⊢
  refine (HW.out _ M1 hD1 hr1).mono ?_
  rintro r w9 ⟨rfl, ho9, nx9, M9, N9⟩
  have hS : StTail D p ro P a c la W1 r0.st w9 := ⟨ho9, nx9, M9, N9⟩
  have X9 := ho9.blk (show ¬ w.heap.size = p by omega) X1
  have x0 : w9.cell? ⟨w.heap.size, 0, none⟩ = some (.int .i64 0) := blk_cell X9 0 _ rfl
  have x1 : w9.cell? ⟨w.heap.size, 1, none⟩ = some (.int .i64 0) := blk_cell X9 1 _ rfl
  have x2 : w9.cell? ⟨w.heap.size, 2, none⟩ = some (.int .u64 0) := blk_cell X9 2 _ rfl
  have x3 : w9.cell? ⟨w.heap.size, 3, none⟩ = some (.int .u64 0) := blk_cell X9 3 _ rfl
  have y0 := blk_fz X9 0
  have y1 := blk_fz X9 1
  have y2 := blk_fz X9 2
  have y3 := blk_fz X9 3
  have lX := blk_lt X9
  have HS := Lib.hid hS
  clear X9 X1 hS ho9 M9 N9
  go_wp2
  refine bodyPost_ret (v := .tuple #[.agg #[.int .i64 r0.k, .int .i64 r0.a, .int .u64 r0.o, .int .u64 r0.n], .bool r0.is]) (by simp [results, Try.results125, go_sem, World.cell?_setCell_same', cell_off, *]) rfl ⟨rfl, ?_⟩
  exact HS.out.off hb1 HD.out lp (by omega) (by omega) _ _ _ _
set_option maxRecDepth 100000 in
set_option maxHeartbeats 1600000 in
theorem wStore1a_calls (D : Nat → Prop) (p : Nat) (ro : Option Nat) (P : CPar) (hP : CPOk P) (a : Option Addr) (c : Nat) (nx la : Value) (s : CSt) (he : s.err = 0) (po pm pa pn : Nat) (x n y : Int) (hy : x + n = y) (h0 : 0 ≤ y) (h1 : y ≤ P.sp + 10) (ans : Int) (w : World) (h : MB w p P a c nx la false 0) (hD : ∀ k, D k → k < w.heap.size) (hr : ∀ g, ro = some g → g < w.heap.size) (hf : w.heap[po]? = some (FnO (fnWalk11 pm pa pn))) (hm : w.heap[pm]? = some (PtO p)) (ha : w.heap[pa]? = some (InO x)) (hn : w.heap[pn]? = some (InO n)) :
    Calls Try.prog 128 #[.int .u64 ans, .pointer (some ⟨po, 0, none⟩)] w (StPost D p ro P a c la w (cWalk P s y)) := by
  have lp := blk_lt h
  have hbo := cBase_range hP hP.f
  have hby := cBase_range hP (s := 1 - P.fr) (by have := hP.f; omega)
  have s4 := hP.s4
  have HH := Lib.hid h
  have HD := Lib.hid hD
  have HRo := Lib.hid hr
  clear h hD hr
  have HW := fun W h hD hr hm ha hn => wWalk11_calls D p ro P hP a c nx la s he pm pa pn x n y hy h0 h1 W h hD hr hm ha hn
  unfold StPost accV at HW
  unfold StPost accV
  generalize cWalk P s y = r0 at HW ⊢
  have HW := Lib.hid HW
  have q0 : w.cell? ⟨po, 0, none⟩ = some (fnWalk11 pm pa pn) := blk_cell hf 0 _ rfl
  have l0 := blk_lt hf
  unfold fnWalk11 at q0
  clear hf
  go_enter Try.func128, Try.ntmps128
  have B1 := fun (k : Nat) (o : Obj) (h : w.heap[k]? = some o) => blk_alloc h (.cells #[.int .i64 0, .int .i64 0, .int .u64 0, .int .u64 0] 44)
  go_wp2_with fail
  have X1 : (w.alloc (.cells #[.int .i64 0, .int .i64 0, .int .u64 0, .int .u64 0] 44)).heap[w.heap.size]? = some (.cells #[.int .i64 0, .int .i64 0, .int .u64 0, .int .u64 0] 44 (0, 0)) := (MapKept.heap_alloc w _).1
  have M1 : MB (w.alloc (.cells #[.int .i64 0, .int .i64 0, .int .u64 0, .int .u64 0] 44)) p P a c nx la false 0 := blk_alloc HH.out _
  have hb1 : Below w.heap.size w (w.alloc (.cells #[.int .i64 0, .int .i64 0, .int .u64 0, .int .u64 0] 44)) := by (repeat (first | exact Below.refl _ _ | (with_reducible assumption) | refine Below.drew ?_ | refine Below.drewN' ?_ _ | refine Below.alloc ?_ (by first | omega | (simp; done) | (simp; omega)) _ | refine Below.setCell ?_ (by first | omega | (simp; done) | (simp; omega)) _ | refine Below.then ?_ hb9 (by first | omega | (simp; done) | (simp; omega)) | refine Below.then ?_ hb8 (by first | omega | (simp; done) | (simp; omega)) | refine Below.then ?_ hb7 (by first | omega | (simp; done) | (simp; omega)) | refine Below.then ?_ hb6 (by first | omega | (simp; done) | (simp; omega)) | refine Below.then ?_ hb5 (by first | omega | (simp; done) | (simp; omega)) | refine Below.then ?_ hb4 (by first | omega | (simp; done) | (simp; omega)) | refine Below.then ?_ hb3 (by first | omega | (simp; done) | (simp; omega)) | refine Below.then ?_ hb2 (by first | omega | (simp; done) | (simp; omega)) | refine Below.then ?_ hb1 (by first | omega | (simp; done) | (simp; omega))))
  have hz1 : w.heap.size < (w.alloc (.cells #[.int .i64 0, .int .i64 0, .int .u64 0, .int .u64 0] 44)).heap.size := by simp
  have hD1 : ∀ k, D k → k < (w.alloc (.cells #[.int .i64 0, .int .i64 0, .int .u64 0, .int .u64 0] 44)).heap.size := fun k hk => Nat.lt_of_lt_of_le (HD.out k hk) hb1.size
  have hr1 : ∀ g, ro = some g → g < (w.alloc (.cells #[.int .i64 0, .int .i64 0, .int .u64 0, .int .u64 0] 44)).heap.size := fun g hg => Nat.lt_of_lt_of_le (HRo.out g hg) hb1.size
  generalize (w.alloc (.cells #[.int .i64 0, .int .i64 0, .int .u64 0, .int .u64 0] 44)) = W1 at X1 M1 hb1 hz1 hD1 hr1 B1 ⊢
  refine (HW.out _ M1 hD1 hr1 (B1 _ _ hm) (B1 _ _ ha) (B1 _ _ hn)).mono ?_
  rintro r w9 ⟨rfl, ho9, nx9, M9, N9⟩
  have hS : StTail D p ro P a c la W1 r0.st w9 := ⟨ho9, nx9, M9, N9⟩
  have X9 := ho9.blk (show ¬ w.heap.size = p by omega) X1
  have x0 : w9.cell? ⟨w.heap.size, 0, none⟩ = some (.int .i64 0) := blk_cell X9 0 _ rfl
  have x1 : w9.cell? ⟨w.heap.size, 1, none⟩ = some (.int .i64 0) := blk_cell X9 1 _ rfl
  have x2 : w9.cell? ⟨w.heap.size, 2, none⟩ = some (.int .u64 0) := blk_cell X9 2 _ rfl
  have x3 : w9.cell? ⟨w.heap.size, 3, none⟩ = some (.int .u64 0) := blk_cell X9 3 _ rfl
  have y0 := blk_fz X9 0
  have y1 := blk_fz X9 1
  have y2 := blk_fz X9 2
  have y3 := blk_fz X9 3
  have lX := blk_lt X9
  have HS := Lib.hid hS
  clear X9 X1 hS ho9 M9 N9
  go_wp2
  refine bodyPost_ret (v := .tuple #[.agg #[.int .i64 r0.k, .int .i64 r0.a, .int .u64 r0.o, .int .u64 r0.n], .bool r0.is]) (by simp [results, Try.results128, go_sem, World.cell?_setCell_same', cell_off, *]) rfl ⟨rfl, ?_⟩
  exact HS.out.off hb1 HD.out lp (by omega) (by omega) _ _ _ _
set_option maxRecDepth 100000 in
set_option maxHeartbeats 1600000 in
theorem wStore1b_calls (D : Nat → Prop) (p : Nat) (ro : Option Nat) (P : CPar) (hP : CPOk P) (a : Option Addr) (c : Nat) (nx la : Value) (s : CSt) (he : s.err = 0) (po pm pa : Nat) (x y : Int) (hy : x + 1 = y) (h0 : 0 ≤ y) (h1 : y ≤ P.sp + 10) (ans : Int) (w : World) (h : MB w p P a c nx la false 0) (hD : ∀ k, D k → k < w.heap.size) (hr : ∀ g, ro = some g → g < w.heap.size) (hf : w.heap[po]? = some (FnO (fnWipe1 pm pa))) (hm : w.heap[pm]? = some (PtO p)) (ha : w.heap[pa]? = some (InO x)) :
    Calls Try.prog 128 #[.int .u64 ans, .pointer (some ⟨po, 0, none⟩)] w (StPost D p ro P a c la w (cWipe P s y)) := by
  have lp := blk_lt h
  have hbo := cBase_range hP hP.f
  have hby := cBase_range hP (s := 1 - P.fr) (by have := hP.f; omega)
  have s4 := hP.s4
  have HH := Lib.hid h
  have HD := Lib.hid hD
  have HRo := Lib.hid hr
  clear h hD hr
  have HW := fun W h hD hr hm ha => wWipe1_calls D p ro P hP a c nx la s he pm pa x y hy h0 h1 W h hD hr hm ha
  unfold StPost accV at HW
  unfold StPost accV
  generalize cWipe P s y = r0 at HW ⊢
  have HW := Lib.hid HW
  have q0 : w.cell? ⟨po, 0, none⟩ = some (fnWipe1 pm pa) := blk_cell hf 0 _ rfl
  have l0 := blk_lt hf
  unfold fnWipe1 at q0
  clear hf
  go_enter Try.func128, Try.ntmps128
  have B1 := fun (k : Nat) (o : Obj) (h : w.heap[k]? = some o) => blk_alloc h (.cells #[.int .i64 0, .int .i64 0, .int .u64 0, .int .u64 0] 44)
  go_wp2_with fail
  have X1 : (w.alloc (.cells #[.int .i64 0, .int .i64 0, .int .u64 0, .int .u64 0] 44)).heap[w.heap.size]? = some (.cells #[.int .i64 0, .int .i64 0, .int .u64 0, .int .u64 0] 44 (0, 0)) := (MapKept.heap_alloc w _).1
  have M1 : MB (w.alloc (.cells #[.int .i64 0, .int .i64 0, .int .u64 0, .int .u64 0] 44)) p P a c nx la false 0 := blk_alloc HH.out _
  have hb1 : Below w.heap.size w (w.alloc (.cells #[.int .i64 0, .int .i64 0, .int .u64 0, .int .u64 0] 44)) := by (repeat (first | exact Below.refl _ _ | (with_reducible assumption) | refine Below.drew ?_ | refine Below.drewN' ?_ _ | refine Below.alloc ?_ (by first | omega | (simp; done) | (simp; omega)) _ | refine Below.setCell ?_ (by first | omega | (simp; done) | (simp; omega)) _ | refine Below.then ?_ hb9 (by first | omega | (simp; done) | (simp; omega)) | refine Below.then ?_ hb8 (by first | omega | (simp; done) | (simp; omega)) | refine Below.then ?_ hb7 (by first | omega | (simp; done) | (simp; omega)) | refine Below.then ?_ hb6 (by first | omega | (simp; done) | (simp; omega)) | refine Below.then ?_ hb5 (by first | omega | (simp; done) | (simp; omega)) | refine Below.then ?_ hb4 (by first | omega | (simp; done) | (simp; omega)) | refine Below.then ?_ hb3 (by first | omega | (simp; done) | (simp; omega)) | refine Below.then ?_ hb2 (by first | omega | (simp; done) | (simp; omega)) | refine Below.then ?_ hb1 (by first | omega | (simp; done) | (simp; omega))))
  have hz1 : w.heap.size < (w.alloc (.cells #[.int .i64 0, .int .i64 0, .int .u64 0, .int .u64 0] 44)).heap.size := by simp
  have hD1 : ∀ k, D k → k < (w.alloc (.cells #[.int .i64 0, .int .i64 0, .int .u64 0, .int .u64 0] 44)).heap.size := fun k hk => Nat.lt_of_lt_of_le (HD.out k hk) hb1.size
  have hr1 : ∀ g, ro = some g → g < (w.alloc (.cells #[.int .i64 0, .int .i64 0, .int .u64 0, .int .u64 0] 44)).heap.size := fun g hg => Nat.lt_of_lt_of_le (HRo.out g hg) hb1.size
  generalize (w.alloc (.cells #[.int .i64 0, .int .i64 0, .int .u64 0, .int .u64 0] 44)) = W1 at X1 M1 hb1 hz1 hD1 hr1 B1 ⊢
  refine (HW.out _ M1 hD1 hr1 (B1 _ _ hm) (B1 _ _ ha)).mono ?_
  rintro r w9 ⟨rfl, ho9, nx9, M9, N9⟩
  have hS : StTail D p ro P a c la W1 r0.st w9 := ⟨ho9, nx9, M9, N9⟩
  have X9 := ho9.blk (show ¬ w.heap.size = p by omega) X1
  have x0 : w9.cell? ⟨w.heap.size, 0, none⟩ = some (.int .i64 0) := blk_cell X9 0 _ rfl
  have x1 : w9.cell? ⟨w.heap.size, 1, none⟩ = some (.int .i64 0) := blk_cell X9 1 _ rfl
  have x2 : w9.cell? ⟨w.heap.size, 2, none⟩ = some (.int .u64 0) := blk_cell X9 2 _ rfl
  have x3 : w9.cell? ⟨w.heap.size, 3, none⟩ = some (.int .u64 0) := blk_cell X9 3 _ rfl
  have y0 := blk_fz X9 0
  have y1 := blk_fz X9 1
  have y2 := blk_fz X9 2
  have y3 := blk_fz X9 3
  have lX := blk_lt X9
  have HS := Lib.hid hS
  clear X9 X1 hS ho9 M9 N9
  go_wp2
  refine bodyPost_ret (v := .tuple #[.agg #[.int .i64 r0.k, .int .i64 r0.a, .int .u64 r0.o, .int .u64 r0.n], .bool r0.is]) (by simp [results, Try.results128, go_sem, World.cell?_setCell_same', cell_off, *]) rfl ⟨rfl, ?_⟩
  exact HS.out.off hb1 HD.out lp (by omega) (by omega) _ _ _ _
end Go.Proofs.Ytafenndokmccoaa
