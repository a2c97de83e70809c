/- The layer 'arena': a word is made another one, if it is that; any access that may be. -/
import Derived.Test.YtafenndokmccoaaArDo
import Derived.Test.YtafenndokmccoaaOnly
namespace Go.Proofs.Ytafenndokmccoaa
open Go.RowKit
set_option linter.unusedVariables false
set_option linter.unusedSimpArgs false

set_option maxRecDepth 100000 in
set_option maxHeartbeats 1600000 in
theorem wdsCas_calls (p b : Nat) (l : List Int) (i : Nat) (hi : i < l.length) (o n : Int) (w : World) (h : Ar w p b l) : Calls Try.prog 57 #[.pointer (some ⟨p, 0, none⟩), accV 3 (i : Int) o n] w fun e w' => e = .returned (.int .u64 l[i]) ∧ Below w.heap.size (if l[i] = o then w.setCell ⟨b, i, none⟩ (.int .u64 n) else w) w' := by
  have HA := Lib.hid h
  have hc := h.cell
  have hv := h.at i hi
  have h1 : (i : Int) < (l.length : Int) := by omega
  have hp := h.pb
  have hb := h.bb
  clear h
  by_cases e : l[i] = o
  · rw [if_pos e]
    subst e
    unfold accV
    go_enter Try.func57, Try.ntmps57
    go_wp2_with fail
    go_quiet (fail)
    rename_i nq
    have HA1 := (HA.out.alloc (.cells #[.int .i64 3, .int .i64 (i : Int), .int .u64 l[i], .int .u64 n] 44)).drewN nq
    have X1 := blk_drewN (MapKept.heap_alloc w (.cells #[.int .i64 3, .int .i64 (i : Int), .int .u64 l[i], .int .u64 n] 44)).1 nq
    have hb1 : Below w.heap.size w ((w.alloc (.cells #[.int .i64 3, .int .i64 (i : Int), .int .u64 l[i], .int .u64 n] 44)).drewN nq) := Below.drewN' ((Below.refl _ _).alloc (Nat.le_refl _) _) nq
    generalize (w.alloc (.cells #[.int .i64 3, .int .i64 (i : Int), .int .u64 l[i], .int .u64 n] 44)).drewN nq = W1 at HA1 X1 hb1 ⊢
    clear hc hv
    have hc := HA1.cell
    have hv := HA1.at i hi
    have hf := HA1.fz i
    have hp1 := HA1.pb
    have hbb1 := HA1.bb
    have x1 : W1.cell? ⟨w.heap.size, 1, none⟩ = some (.int .i64 (i : Int)) := blk_cell X1 1 _ rfl
    have x2 : W1.cell? ⟨w.heap.size, 2, none⟩ = some (.int .u64 l[i]) := blk_cell X1 2 _ rfl
    have x3 : W1.cell? ⟨w.heap.size, 3, none⟩ = some (.int .u64 n) := blk_cell X1 3 _ rfl
    have lX := blk_lt X1
    have HB := Lib.hid hb1
    clear hb1 X1 HA1
    go_wp2_with fail
    go_region
    go_wp2
    go_ret
    exact ⟨rfl, below_set2 HB.out.drew _ _⟩
  · rw [if_neg e]
    have g1 : (l[i] == o) = false := beq_eq_false_iff_ne.2 e
    unfold accV
    clear e
    go_enter Try.func57, Try.ntmps57
    go_wp2_with fail
    go_quiet (fail)
    rename_i nq
    have X1 := blk_drewN (MapKept.heap_alloc w (.cells #[.int .i64 3, .int .i64 (i : Int), .int .u64 o, .int .u64 n] 44)).1 nq
    have hb1 : Below w.heap.size w ((w.alloc (.cells #[.int .i64 3, .int .i64 (i : Int), .int .u64 o, .int .u64 n] 44)).drewN nq) := Below.drewN' ((Below.refl _ _).alloc (Nat.le_refl _) _) nq
    generalize (w.alloc (.cells #[.int .i64 3, .int .i64 (i : Int), .int .u64 o, .int .u64 n] 44)).drewN nq = W1 at X1 hb1 ⊢
    have x2 : W1.cell? ⟨w.heap.size, 2, none⟩ = some (.int .u64 o) := blk_cell X1 2 _ rfl
    have lX := blk_lt X1
    go_wp2
    go_ret
    exact ⟨rfl, hb1⟩
set_option maxRecDepth 100000 in
set_option maxHeartbeats 1600000 in
theorem arDo_cas (p b : Nat) (l : List Int) (i : Nat) (hi : i < l.length) (ov v : Int) (w : World) (h : Ar w p b l) : Calls Try.prog 20 #[.pointer (some ⟨p, 0, none⟩), accV 3 (i : Int) ov v] w fun e w' =>
    e = .returned (.tuple #[.int .u64 l[i], .int .i64 0]) ∧ Below w.heap.size (if l[i] = ov then w.setCell ⟨b, i, none⟩ (.int .u64 v) else w) w' := by
  obtain ⟨WX, hWX⟩ : ∃ X, (if l[i] = ov then w.setCell ⟨b, i, none⟩ (.int .u64 v) else w) = X := ⟨_, rfl⟩
  rw [hWX]
  have HWX := Lib.hid hWX
  clear hWX
  have HN := Lib.hid (fun W h => arNone_calls p b l W h)
  have HC := Lib.hid (fun W => arCheck_cas (i : Int) ov v W)
  have HL := Lib.hid (fun W h => wdsCas_calls p b l i hi ov v W h)
  have HA := Lib.hid h
  have h1 : (i : Int) < (l.length : Int) := by omega
  clear h
  unfold accV at HC HL
  unfold accV
  go_enter Try.func20, Try.ntmps20
  go_wp2_with fail
  refine (HC.out _).mono ?_; rintro e1 w1 ⟨rfl, hb1⟩; obtain ⟨hc1, hf1⟩ := bcell hb1; have hz1 := hb1.size; (try simp at hz1)
  have HA1 := Lib.hid ((HA.out.alloc _).below hb1)
  have q0 := hc1 w.heap.size 0 (by first | omega | (simp; done) | (simp; omega)); simp [go_sem] at q0
  have q1 := hc1 w.heap.size 1 (by first | omega | (simp; done) | (simp; omega)); simp [go_sem] at q1
  have q2 := hc1 w.heap.size 2 (by first | omega | (simp; done) | (simp; omega)); simp [go_sem] at q2
  have q3 := hc1 w.heap.size 3 (by first | omega | (simp; done) | (simp; omega)); simp [go_sem] at q3
  go_wp2_with fail
  refine (HN.out _ HA1.out).mono ?_; rintro e2 w2 ⟨rfl, hb2⟩; obtain ⟨hc2, hf2⟩ := bcell hb2; have hz2 := hb2.size; (try simp at hz2)
  have HA2 := Lib.hid (HA1.out.below hb2)
  replace q0 := hold_cell (w2 := w2) q0 (by (repeat (first | exact Below.refl _ _ | (with_reducible assumption) | refine Below.drew ?_ | refine Below.drewN' ?_ _ | refine Below.alloc ?_ (by first | omega | (simp; done) | (simp; omega)) _ | refine Below.setCell ?_ (by first | omega | (simp; done) | (simp; omega)) _ | refine Below.then ?_ hb9 (by first | omega | (simp; done) | (simp; omega)) | refine Below.then ?_ hb8 (by first | omega | (simp; done) | (simp; omega)) | refine Below.then ?_ hb7 (by first | omega | (simp; done) | (simp; omega)) | refine Below.then ?_ hb6 (by first | omega | (simp; done) | (simp; omega)) | refine Below.then ?_ hb5 (by first | omega | (simp; done) | (simp; omega)) | refine Below.then ?_ hb4 (by first | omega | (simp; done) | (simp; omega)) | refine Below.then ?_ hb3 (by first | omega | (simp; done) | (simp; omega)) | refine Below.then ?_ hb2 (by first | omega | (simp; done) | (simp; omega)) | refine Below.then ?_ hb1 (by first | omega | (simp; done) | (simp; omega))))) (by first | omega | (simp; done) | (simp; omega))
  replace q1 := hold_cell (w2 := w2) q1 (by (repeat (first | exact Below.refl _ _ | (with_reducible assumption) | refine Below.drew ?_ | refine Below.drewN' ?_ _ | refine Below.alloc ?_ (by first | omega | (simp; done) | (simp; omega)) _ | refine Below.setCell ?_ (by first | omega | (simp; done) | (simp; omega)) _ | refine Below.then ?_ hb9 (by first | omega | (simp; done) | (simp; omega)) | refine Below.then ?_ hb8 (by first | omega | (simp; done) | (simp; omega)) | refine Below.then ?_ hb7 (by first | omega | (simp; done) | (simp; omega)) | refine Below.then ?_ hb6 (by first | omega | (simp; done) | (simp; omega)) | refine Below.then ?_ hb5 (by first | omega | (simp; done) | (simp; omega)) | refine Below.then ?_ hb4 (by first | omega | (simp; done) | (simp; omega)) | refine Below.then ?_ hb3 (by first | omega | (simp; done) | (simp; omega)) | refine Below.then ?_ hb2 (by first | omega | (simp; done) | (simp; omega)) | refine Below.then ?_ hb1 (by first | omega | (simp; done) | (simp; omega))))) (by first | omega | (simp; done) | (simp; omega))
  replace q2 := hold_cell (w2 := w2) q2 (by (repeat (first | exact Below.refl _ _ | (with_reducible assumption) | refine Below.drew ?_ | refine Below.drewN' ?_ _ | refine Below.alloc ?_ (by first | omega | (simp; done) | (simp; omega)) _ | refine Below.setCell ?_ (by first | omega | (simp; done) | (simp; omega)) _ | refine Below.then ?_ hb9 (by first | omega | (simp; done) | (simp; omega)) | refine Below.then ?_ hb8 (by first | omega | (simp; done) | (simp; omega)) | refine Below.then ?_ hb7 (by first | omega | (simp; done) | (simp; omega)) | refine Below.then ?_ hb6 (by first | omega | (simp; done) | (simp; omega)) | refine Below.then ?_ hb5 (by first | omega | (simp; done) | (simp; omega)) | refine Below.then ?_ hb4 (by first | omega | (simp; done) | (simp; omega)) | refine Below.then ?_ hb3 (by first | omega | (simp; done) | (simp; omega)) | refine Below.then ?_ hb2 (by first | omega | (simp; done) | (simp; omega)) | refine Below.then ?_ hb1 (by first | omega | (simp; done) | (simp; omega))))) (by first | omega | (simp; done) | (simp; omega))
  replace q3 := hold_cell (w2 := w2) q3 (by (repeat (first | exact Below.refl _ _ | (with_reducible assumption) | refine Below.drew ?_ | refine Below.drewN' ?_ _ | refine Below.alloc ?_ (by first | omega | (simp; done) | (simp; omega)) _ | refine Below.setCell ?_ (by first | omega | (simp; done) | (simp; omega)) _ | refine Below.then ?_ hb9 (by first | omega | (simp; done) | (simp; omega)) | refine Below.then ?_ hb8 (by first | omega | (simp; done) | (simp; omega)) | refine Below.then ?_ hb7 (by first | omega | (simp; done) | (simp; omega)) | refine Below.then ?_ hb6 (by first | omega | (simp; done) | (simp; omega)) | refine Below.then ?_ hb5 (by first | omega | (simp; done) | (simp; omega)) | refine Below.then ?_ hb4 (by first | omega | (simp; done) | (simp; omega)) | refine Below.then ?_ hb3 (by first | omega | (simp; done) | (simp; omega)) | refine Below.then ?_ hb2 (by first | omega | (simp; done) | (simp; omega)) | refine Below.then ?_ hb1 (by first | omega | (simp; done) | (simp; omega))))) (by first | omega | (simp; done) | (simp; omega))
  have hcell := HA2.out.cell
  have hpb := HA2.out.pb
  have hlt := Nat.lt_of_lt_of_le (show w.heap.size < w1.heap.size by omega) hz2
  have hmf : ∀ (fn : Fn) (first cap : Array Value) (w : World), (Instr.makeFunc fn first cap).run Try.prog w = .ok (.func fn first cap) w := fun _ _ _ _ => rfl
  have g1 : decide ((i : Int) < 0) = false := by rw [decide_eq_false_iff_not]; omega
  have g2 : decide ((i : Int) ≥ (l.length : Int)) = false := by rw [decide_eq_false_iff_not]; omega
  go_wp2_with fail
  go_quiet (fail)
  rename_i nq
  generalize hW3 : w2.drewN nq = w3
  have hb3 : Below w2.heap.size w2 w3 := by rw [← hW3]; exact Below.drewN' (Below.refl _ _) _
  have hz3 := hb3.size
  have HA3 := Lib.hid (HA2.out.below hb3)
  clear hW3 hcell hpb
  replace q0 := hold_cell (w2 := w3) q0 (by (repeat (first | exact Below.refl _ _ | (with_reducible assumption) | refine Below.drew ?_ | refine Below.drewN' ?_ _ | refine Below.alloc ?_ (by first | omega | (simp; done) | (simp; omega)) _ | refine Below.setCell ?_ (by first | omega | (simp; done) | (simp; omega)) _ | refine Below.then ?_ hb9 (by first | omega | (simp; done) | (simp; omega)) | refine Below.then ?_ hb8 (by first | omega | (simp; done) | (simp; omega)) | refine Below.then ?_ hb7 (by first | omega | (simp; done) | (simp; omega)) | refine Below.then ?_ hb6 (by first | omega | (simp; done) | (simp; omega)) | refine Below.then ?_ hb5 (by first | omega | (simp; done) | (simp; omega)) | refine Below.then ?_ hb4 (by first | omega | (simp; done) | (simp; omega)) | refine Below.then ?_ hb3 (by first | omega | (simp; done) | (simp; omega)) | refine Below.then ?_ hb2 (by first | omega | (simp; done) | (simp; omega)) | refine Below.then ?_ hb1 (by first | omega | (simp; done) | (simp; omega))))) (by first | omega | (simp; done) | (simp; omega))
  replace q1 := hold_cell (w2 := w3) q1 (by (repeat (first | exact Below.refl _ _ | (with_reducible assumption) | refine Below.drew ?_ | refine Below.drewN' ?_ _ | refine Below.alloc ?_ (by first | omega | (simp; done) | (simp; omega)) _ | refine Below.setCell ?_ (by first | omega | (simp; done) | (simp; omega)) _ | refine Below.then ?_ hb9 (by first | omega | (simp; done) | (simp; omega)) | refine Below.then ?_ hb8 (by first | omega | (simp; done) | (simp; omega)) | refine Below.then ?_ hb7 (by first | omega | (simp; done) | (simp; omega)) | refine Below.then ?_ hb6 (by first | omega | (simp; done) | (simp; omega)) | refine Below.then ?_ hb5 (by first | omega | (simp; done) | (simp; omega)) | refine Below.then ?_ hb4 (by first | omega | (simp; done) | (simp; omega)) | refine Below.then ?_ hb3 (by first | omega | (simp; done) | (simp; omega)) | refine Below.then ?_ hb2 (by first | omega | (simp; done) | (simp; omega)) | refine Below.then ?_ hb1 (by first | omega | (simp; done) | (simp; omega))))) (by first | omega | (simp; done) | (simp; omega))
  replace q2 := hold_cell (w2 := w3) q2 (by (repeat (first | exact Below.refl _ _ | (with_reducible assumption) | refine Below.drew ?_ | refine Below.drewN' ?_ _ | refine Below.alloc ?_ (by first | omega | (simp; done) | (simp; omega)) _ | refine Below.setCell ?_ (by first | omega | (simp; done) | (simp; omega)) _ | refine Below.then ?_ hb9 (by first | omega | (simp; done) | (simp; omega)) | refine Below.then ?_ hb8 (by first | omega | (simp; done) | (simp; omega)) | refine Below.then ?_ hb7 (by first | omega | (simp; done) | (simp; omega)) | refine Below.then ?_ hb6 (by first | omega | (simp; done) | (simp; omega)) | refine Below.then ?_ hb5 (by first | omega | (simp; done) | (simp; omega)) | refine Below.then ?_ hb4 (by first | omega | (simp; done) | (simp; omega)) | refine Below.then ?_ hb3 (by first | omega | (simp; done) | (simp; omega)) | refine Below.then ?_ hb2 (by first | omega | (simp; done) | (simp; omega)) | refine Below.then ?_ hb1 (by first | omega | (simp; done) | (simp; omega))))) (by first | omega | (simp; done) | (simp; omega))
  replace q3 := hold_cell (w2 := w3) q3 (by (repeat (first | exact Below.refl _ _ | (with_reducible assumption) | refine Below.drew ?_ | refine Below.drewN' ?_ _ | refine Below.alloc ?_ (by first | omega | (simp; done) | (simp; omega)) _ | refine Below.setCell ?_ (by first | omega | (simp; done) | (simp; omega)) _ | refine Below.then ?_ hb9 (by first | omega | (simp; done) | (simp; omega)) | refine Below.then ?_ hb8 (by first | omega | (simp; done) | (simp; omega)) | refine Below.then ?_ hb7 (by first | omega | (simp; done) | (simp; omega)) | refine Below.then ?_ hb6 (by first | omega | (simp; done) | (simp; omega)) | refine Below.then ?_ hb5 (by first | omega | (simp; done) | (simp; omega)) | refine Below.then ?_ hb4 (by first | omega | (simp; done) | (simp; omega)) | refine Below.then ?_ hb3 (by first | omega | (simp; done) | (simp; omega)) | refine Below.then ?_ hb2 (by first | omega | (simp; done) | (simp; omega)) | refine Below.then ?_ hb1 (by first | omega | (simp; done) | (simp; omega))))) (by first | omega | (simp; done) | (simp; omega))
  go_wp2_with fail
  go_region
  have dq : ∀ (k : Nat) (v : Value) (T : TypeId) (xs : Array Value), xs[k]? = some v → (w3.alloc (.cells xs T)).drew.cell? ⟨w3.heap.size, k, none⟩ = some v := fun k v T xs h => by
    have := (MapKept.heap_alloc w3 (.cells xs T)).1
    show (w3.alloc (.cells xs T)).cell? ⟨w3.heap.size, k, none⟩ = some v
    simp only [World.cell?, this]
    exact h
  generalize hW4 : (w3.alloc _).drew = w4
  have hb4 : Below w3.heap.size w3 w4 := by rw [← hW4]; exact ((Below.refl _ _).alloc (Nat.le_refl _) _).drew
  have d0 : w4.cell? ⟨w3.heap.size, 3, none⟩ = some (.func (.func 57) #[.pointer (some ⟨p, 0, none⟩)] #[]) := by rw [← hW4]; exact dq _ _ _ _ rfl
  have hz4 := hb4.size
  have HA4 := Lib.hid (HA3.out.below hb4)
  clear hW4 dq
  replace q0 := hold_cell (w2 := w4) q0 (by (repeat (first | exact Below.refl _ _ | (with_reducible assumption) | refine Below.drew ?_ | refine Below.drewN' ?_ _ | refine Below.alloc ?_ (by first | omega | (simp; done) | (simp; omega)) _ | refine Below.setCell ?_ (by first | omega | (simp; done) | (simp; omega)) _ | refine Below.then ?_ hb9 (by first | omega | (simp; done) | (simp; omega)) | refine Below.then ?_ hb8 (by first | omega | (simp; done) | (simp; omega)) | refine Below.then ?_ hb7 (by first | omega | (simp; done) | (simp; omega)) | refine Below.then ?_ hb6 (by first | omega | (simp; done) | (simp; omega)) | refine Below.then ?_ hb5 (by first | omega | (simp; done) | (simp; omega)) | refine Below.then ?_ hb4 (by first | omega | (simp; done) | (simp; omega)) | refine Below.then ?_ hb3 (by first | omega | (simp; done) | (simp; omega)) | refine Below.then ?_ hb2 (by first | omega | (simp; done) | (simp; omega)) | refine Below.then ?_ hb1 (by first | omega | (simp; done) | (simp; omega))))) (by first | omega | (simp; done) | (simp; omega))
  replace q1 := hold_cell (w2 := w4) q1 (by (repeat (first | exact Below.refl _ _ | (with_reducible assumption) | refine Below.drew ?_ | refine Below.drewN' ?_ _ | refine Below.alloc ?_ (by first | omega | (simp; done) | (simp; omega)) _ | refine Below.setCell ?_ (by first | omega | (simp; done) | (simp; omega)) _ | refine Below.then ?_ hb9 (by first | omega | (simp; done) | (simp; omega)) | refine Below.then ?_ hb8 (by first | omega | (simp; done) | (simp; omega)) | refine Below.then ?_ hb7 (by first | omega | (simp; done) | (simp; omega)) | refine Below.then ?_ hb6 (by first | omega | (simp; done) | (simp; omega)) | refine Below.then ?_ hb5 (by first | omega | (simp; done) | (simp; omega)) | refine Below.then ?_ hb4 (by first | omega | (simp; done) | (simp; omega)) | refine Below.then ?_ hb3 (by first | omega | (simp; done) | (simp; omega)) | refine Below.then ?_ hb2 (by first | omega | (simp; done) | (simp; omega)) | refine Below.then ?_ hb1 (by first | omega | (simp; done) | (simp; omega))))) (by first | omega | (simp; done) | (simp; omega))
  replace q2 := hold_cell (w2 := w4) q2 (by (repeat (first | exact Below.refl _ _ | (with_reducible assumption) | refine Below.drew ?_ | refine Below.drewN' ?_ _ | refine Below.alloc ?_ (by first | omega | (simp; done) | (simp; omega)) _ | refine Below.setCell ?_ (by first | omega | (simp; done) | (simp; omega)) _ | refine Below.then ?_ hb9 (by first | omega | (simp; done) | (simp; omega)) | refine Below.then ?_ hb8 (by first | omega | (simp; done) | (simp; omega)) | refine Below.then ?_ hb7 (by first | omega | (simp; done) | (simp; omega)) | refine Below.then ?_ hb6 (by first | omega | (simp; done) | (simp; omega)) | refine Below.then ?_ hb5 (by first | omega | (simp; done) | (simp; omega)) | refine Below.then ?_ hb4 (by first | omega | (simp; done) | (simp; omega)) | refine Below.then ?_ hb3 (by first | omega | (simp; done) | (simp; omega)) | refine Below.then ?_ hb2 (by first | omega | (simp; done) | (simp; omega)) | refine Below.then ?_ hb1 (by first | omega | (simp; done) | (simp; omega))))) (by first | omega | (simp; done) | (simp; omega))
  replace q3 := hold_cell (w2 := w4) q3 (by (repeat (first | exact Below.refl _ _ | (with_reducible assumption) | refine Below.drew ?_ | refine Below.drewN' ?_ _ | refine Below.alloc ?_ (by first | omega | (simp; done) | (simp; omega)) _ | refine Below.setCell ?_ (by first | omega | (simp; done) | (simp; omega)) _ | refine Below.then ?_ hb9 (by first | omega | (simp; done) | (simp; omega)) | refine Below.then ?_ hb8 (by first | omega | (simp; done) | (simp; omega)) | refine Below.then ?_ hb7 (by first | omega | (simp; done) | (simp; omega)) | refine Below.then ?_ hb6 (by first | omega | (simp; done) | (simp; omega)) | refine Below.then ?_ hb5 (by first | omega | (simp; done) | (simp; omega)) | refine Below.then ?_ hb4 (by first | omega | (simp; done) | (simp; omega)) | refine Below.then ?_ hb3 (by first | omega | (simp; done) | (simp; omega)) | refine Below.then ?_ hb2 (by first | omega | (simp; done) | (simp; omega)) | refine Below.then ?_ hb1 (by first | omega | (simp; done) | (simp; omega))))) (by first | omega | (simp; done) | (simp; omega))
  go_wp2_with fail
  go_still_tail 5, (by kernel_rfl)
  change wpList _ _ _ _ _ w4.drew
  generalize hW5 : w4.drew = w5
  have hb5 : Below w4.heap.size w4 w5 := by rw [← hW5]; exact (Below.refl _ _).drew
  have HA5 := Lib.hid (HA4.out.below hb5)
  have hz5 := hb5.size
  clear hW5
  go_wp2_with fail
  refine (HL.out _ HA5.out).mono ?_; rintro e6 w6 ⟨rfl, hb6⟩
  have hbw : Below w.heap.size w w5 := by (repeat (first | exact Below.refl _ _ | (with_reducible assumption) | refine Below.drew ?_ | refine Below.drewN' ?_ _ | refine Below.alloc ?_ (by first | omega | (simp; done) | (simp; omega)) _ | refine Below.setCell ?_ (by first | omega | (simp; done) | (simp; omega)) _ | refine Below.then ?_ hb9 (by first | omega | (simp; done) | (simp; omega)) | refine Below.then ?_ hb8 (by first | omega | (simp; done) | (simp; omega)) | refine Below.then ?_ hb7 (by first | omega | (simp; done) | (simp; omega)) | refine Below.then ?_ hb6 (by first | omega | (simp; done) | (simp; omega)) | refine Below.then ?_ hb5 (by first | omega | (simp; done) | (simp; omega)) | refine Below.then ?_ hb4 (by first | omega | (simp; done) | (simp; omega)) | refine Below.then ?_ hb3 (by first | omega | (simp; done) | (simp; omega)) | refine Below.then ?_ hb2 (by first | omega | (simp; done) | (simp; omega)) | refine Below.then ?_ hb1 (by first | omega | (simp; done) | (simp; omega))))
  have hbx : Below w.heap.size WX w6 := by
    rw [← HWX.out]
    by_cases e : l[i] = ov
    · rw [if_pos e] at hb6 ⊢
      exact (below_set2 hbw ⟨b, i, none⟩ (.int .u64 v)).trans (hb6.mono hbw.size)
    · rw [if_neg e] at hb6 ⊢
      exact hbw.trans (hb6.mono hbw.size)
  have HX := Lib.hid hbx
  clear hbx hb6
  go_wp2
  go_ret2
  exact ⟨rfl, HX.out⟩

/-- an access done: its answer, the words behind it -/
def acDo (l : List Int) (k a o n : Int) : Int × List Int :=
  if k = 1 then (l.getD a.toNat 0, l) else if k = 2 then (0, l.set a.toNat n) else (l.getD a.toNat 0, if l.getD a.toNat 0 = o then l.set a.toNat n else l)
theorem ar_put {w w' : World} {p b : Nat} {l : List Int} (h : Ar w p b l) (i : Nat) (v : Int) (hv : 0 ≤ v ∧ v < 18446744073709551616) (hb : Below w.heap.size (w.setCell ⟨b, i, none⟩ (.int .u64 v)) w') : Only (· = b) w w' ∧ Ar w' p b (l.set i v) := by
  have hb' : Below (w.setCell ⟨b, i, none⟩ (.int .u64 v)).heap.size (w.setCell ⟨b, i, none⟩ (.int .u64 v)) w' := by rw [setCell_size]; exact hb
  exact ⟨((Only.refl (· = b) w).setCell (p := ⟨b, i, none⟩) (.inl rfl) _).then hb', (h.set i v hv).below hb'⟩
theorem arDo_calls (p b : Nat) (l : List Int) (k x o n : Int) (h0 : 0 ≤ x) (h1 : x < l.length) (hk : (k = 1 ∧ o = 0 ∧ n = 0) ∨ (k = 2 ∧ o = 0 ∧ 0 ≤ n ∧ n < 18446744073709551616) ∨ (k = 3 ∧ 0 ≤ n ∧ n < 18446744073709551616)) (w : World) (h : Ar w p b l) :
    Calls Try.prog 20 #[.pointer (some ⟨p, 0, none⟩), accV k x o n] w fun e w' => e = .returned (.tuple #[.int .u64 (acDo l k x o n).1, .int .i64 0]) ∧ Only (· = b) w w' ∧ Ar w' p b (acDo l k x o n).2 := by
  obtain ⟨i, rfl⟩ := Int.eq_ofNat_of_zero_le h0
  have hi : i < l.length := by omega
  have hg : l.getD (i : Int).toNat 0 = l[i] := by rw [Int.toNat_natCast, List.getD_eq_getElem?_getD, List.getElem?_eq_getElem hi]; rfl
  unfold acDo
  rw [hg, Int.toNat_natCast]
  rcases hk with ⟨rfl, rfl, rfl⟩ | ⟨rfl, rfl, n0, n1⟩ | ⟨rfl, n0, n1⟩
  · refine (arDo_load p b l i hi w h).mono ?_
    rintro e w' ⟨rfl, hb⟩
    exact ⟨rfl, Only.of hb, h.below hb⟩
  · refine (arDo_store p b l i hi n w h).mono ?_
    rintro e w' ⟨rfl, hb⟩
    exact ⟨rfl, ar_put h i n ⟨n0, n1⟩ hb⟩
  · refine (arDo_cas p b l i hi o n w h).mono ?_
    rintro e w' ⟨rfl, hb⟩
    refine ⟨rfl, ?_⟩
    show Only (· = b) w w' ∧ Ar w' p b (if l[i] = o then l.set i n else l)
    by_cases e : l[i] = o
    · rw [if_pos e] at hb ⊢
      exact ar_put h i n ⟨n0, n1⟩ hb
    · rw [if_neg e] at hb ⊢
      exact ⟨Only.of hb, h.below hb⟩
end Go.Proofs.Ytafenndokmccoaa
