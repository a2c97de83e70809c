/- The layer 'word': what a word is looked at as. -/
import Derived.Test.YtafenndokmccoaaWord
import Derived.LoopN
import Derived.Laws.EntriesVeiled
namespace Go.Proofs.Ytafenndokmccoaa
open Go.RowKit
set_option linter.unusedVariables false
set_option linter.unusedSimpArgs false

def lookB (x : Int) : Int := if wdK x = 0 then 0 else x
theorem i0_ (W : World) : (Instr.index 215 (.agg rowsV) (.int .i64 0)).run Try.prog W = .ok (.agg #[.string ⟨#[98, 97, 100]⟩, .func (.func 152) #[] #[], .int .i64 0, .int .i64 0, .nilFunc]) W := index_row0 W
theorem i1_ (W : World) : (Instr.index 215 (.agg rowsV) (.int .i64 1)).run Try.prog W = .ok (.agg #[.string ⟨#[110, 117, 108, 108]⟩, .func (.func 153) #[] #[], .int .i64 0, .int .i64 0, .func (.func 154) #[] #[]]) W := index_row1 W
theorem i2_ (W : World) : (Instr.index 215 (.agg rowsV) (.int .i64 2)).run Try.prog W = .ok (.agg #[.string ⟨#[]⟩, .func (.func 155) #[] #[], .int .i64 1, .int .i64 16777215, .func (.func 156) #[] #[]]) W := index_row2 W
theorem i3_ (W : World) : (Instr.index 215 (.agg rowsV) (.int .i64 3)).run Try.prog W = .ok (.agg #[.string ⟨#[]⟩, .func (.func 157) #[] #[], .int .i64 (-576460752303423488), .int .i64 576460752303423487, .func (.func 158) #[] #[]]) W := index_row3 W
theorem i4_ (W : World) : (Instr.index 215 (.agg rowsV) (.int .i64 4)).run Try.prog W = .ok (.agg #[.string ⟨#[101, 109, 112, 116, 121]⟩, .func (.func 159) #[] #[], .int .i64 0, .int .i64 0, .func (.func 160) #[] #[]]) W := index_row4 W

set_option maxRecDepth 100000 in
set_option maxHeartbeats 3200000 in
theorem look_null (x : Int) (h0 : 0 ≤ x) (h1 : x < 18446744073709551616) (b2 : (x - x % 2 == 0) = true) (w : World) :
    Calls Try.prog 130 #[.int .u64 x] w fun e w' => e = .returned (.agg #[.int .u64 x, .int .i64 1]) ∧ Below w.heap.size w w' := by
  have hb := andNot_one_u64 x h0 h1
  go_enter Try.func130, Try.ntmps130
  go_wp2_with fail
  refine (rows_calls _).mono ?_; rintro e1 w1 ⟨rfl, hb1⟩; obtain ⟨hc1, hf1⟩ := bcell hb1; have hz1 := hb1.size; (try simp at hz1)
  have q0 := hc1 w.heap.size 0 (by first | omega | (simp; done) | (simp; omega)); simp [go_sem] at q0
  have q1 := hc1 w.heap.size 1 (by first | omega | (simp; done) | (simp; omega)); simp [go_sem] at q1
  have f0 := hf1 w.heap.size 0 (by first | omega | (simp; done) | (simp; omega)); simp [go_sem] at f0
  have f1 := hf1 w.heap.size 1 (by first | omega | (simp; done) | (simp; omega)); simp [go_sem] at f1
  have l0 : w.heap.size < w1.heap.size := by first | omega | (simp; done) | (simp; omega)
  have an0 : ¬ w.heap.size = w1.heap.size := by omega
  have an1 : ¬ w.heap.size = w1.heap.size + 1 := by omega
  have an2 : ¬ w.heap.size = w1.heap.size + 1 + 1 := by omega
  have an3 : ¬ w.heap.size = w1.heap.size + 1 + 1 + 1 := by omega
  have an4 : ¬ w.heap.size = w1.heap.size + 1 + 1 + 1 + 1 := by omega
  have an5 : ¬ w.heap.size = w1.heap.size + 1 + 1 + 1 + 1 + 1 := by omega
  have ax1 : w.heap.size < w1.heap.size + 1 := by omega
  have ax2 : w.heap.size < w1.heap.size + 1 + 1 := by omega
  have ax3 : w.heap.size < w1.heap.size + 1 + 1 + 1 := by omega
  have ax4 : w.heap.size < w1.heap.size + 1 + 1 + 1 + 1 := by omega
  have ax5 : w.heap.size < w1.heap.size + 1 + 1 + 1 + 1 + 1 := by omega
  have i0 := i0_
  have i1 := i1_
  go_wp2_with fail
  refine wp_loop_rounds 6 ?_
  rw [rounds_succ]
  go_wp2
  rw [rounds_succ]
  go_wp2
  exact bodyPost_ret (v := .agg #[.int .u64 x, .int .i64 1]) (by simp [results, Try.results130, go_sem, q0, q1, l0, Nat.ne_of_lt l0, World.cell?_setCell_same', cell_off, *]) rfl ⟨rfl, by (repeat (first | exact Below.refl _ _ | (with_reducible assumption) | refine Below.drew ?_ | refine Below.drewN' ?_ _ | refine Below.alloc ?_ (by first | omega | (simp; done) | (simp; omega)) _ | refine Below.setCell ?_ (by first | omega | (simp; done) | (simp; omega)) _ | refine Below.then ?_ hb9 (by first | omega | (simp; done) | (simp; omega)) | refine Below.then ?_ hb8 (by first | omega | (simp; done) | (simp; omega)) | refine Below.then ?_ hb7 (by first | omega | (simp; done) | (simp; omega)) | refine Below.then ?_ hb6 (by first | omega | (simp; done) | (simp; omega)) | refine Below.then ?_ hb5 (by first | omega | (simp; done) | (simp; omega)) | refine Below.then ?_ hb4 (by first | omega | (simp; done) | (simp; omega)) | refine Below.then ?_ hb3 (by first | omega | (simp; done) | (simp; omega)) | refine Below.then ?_ hb2 (by first | omega | (simp; done) | (simp; omega)) | refine Below.then ?_ hb1 (by first | omega | (simp; done) | (simp; omega))))⟩
set_option maxRecDepth 100000 in
set_option maxHeartbeats 3200000 in
theorem look_ptr (x : Int) (h0 : 0 ≤ x) (h1 : x < 18446744073709551616) (b2 : (x - x % 2 == 0) = false) (b3 : ((x - x % 2) % 8 == 0) = true) (b4 : 0 < x / 8) (b5 : x / 8 ≤ 16777215) (w : World) :
    Calls Try.prog 130 #[.int .u64 x] w fun e w' => e = .returned (.agg #[.int .u64 x, .int .i64 2]) ∧ Below w.heap.size w w' := by
  have hb := andNot_one_u64 x h0 h1
  go_enter Try.func130, Try.ntmps130
  go_wp2_with fail
  refine (rows_calls _).mono ?_; rintro e1 w1 ⟨rfl, hb1⟩; obtain ⟨hc1, hf1⟩ := bcell hb1; have hz1 := hb1.size; (try simp at hz1)
  have q0 := hc1 w.heap.size 0 (by first | omega | (simp; done) | (simp; omega)); simp [go_sem] at q0
  have q1 := hc1 w.heap.size 1 (by first | omega | (simp; done) | (simp; omega)); simp [go_sem] at q1
  have f0 := hf1 w.heap.size 0 (by first | omega | (simp; done) | (simp; omega)); simp [go_sem] at f0
  have f1 := hf1 w.heap.size 1 (by first | omega | (simp; done) | (simp; omega)); simp [go_sem] at f1
  have l0 : w.heap.size < w1.heap.size := by first | omega | (simp; done) | (simp; omega)
  have an0 : ¬ w.heap.size = w1.heap.size := by omega
  have an1 : ¬ w.heap.size = w1.heap.size + 1 := by omega
  have an2 : ¬ w.heap.size = w1.heap.size + 1 + 1 := by omega
  have an3 : ¬ w.heap.size = w1.heap.size + 1 + 1 + 1 := by omega
  have an4 : ¬ w.heap.size = w1.heap.size + 1 + 1 + 1 + 1 := by omega
  have an5 : ¬ w.heap.size = w1.heap.size + 1 + 1 + 1 + 1 + 1 := by omega
  have ax1 : w.heap.size < w1.heap.size + 1 := by omega
  have ax2 : w.heap.size < w1.heap.size + 1 + 1 := by omega
  have ax3 : w.heap.size < w1.heap.size + 1 + 1 + 1 := by omega
  have ax4 : w.heap.size < w1.heap.size + 1 + 1 + 1 + 1 := by omega
  have ax5 : w.heap.size < w1.heap.size + 1 + 1 + 1 + 1 + 1 := by omega
  have i0 := i0_
  have i1 := i1_
  have i2 := i2_
  go_wp2_with fail
  refine wp_loop_rounds 6 ?_
  rw [rounds_succ]
  go_wp2
  rw [rounds_succ]
  go_wp2
  rw [rounds_succ]
  go_wp2
  exact bodyPost_ret (v := .agg #[.int .u64 x, .int .i64 2]) (by simp [results, Try.results130, go_sem, q0, q1, l0, Nat.ne_of_lt l0, World.cell?_setCell_same', cell_off, *]) rfl ⟨rfl, by (repeat (first | exact Below.refl _ _ | (with_reducible assumption) | refine Below.drew ?_ | refine Below.drewN' ?_ _ | refine Below.alloc ?_ (by first | omega | (simp; done) | (simp; omega)) _ | refine Below.setCell ?_ (by first | omega | (simp; done) | (simp; omega)) _ | refine Below.then ?_ hb9 (by first | omega | (simp; done) | (simp; omega)) | refine Below.then ?_ hb8 (by first | omega | (simp; done) | (simp; omega)) | refine Below.then ?_ hb7 (by first | omega | (simp; done) | (simp; omega)) | refine Below.then ?_ hb6 (by first | omega | (simp; done) | (simp; omega)) | refine Below.then ?_ hb5 (by first | omega | (simp; done) | (simp; omega)) | refine Below.then ?_ hb4 (by first | omega | (simp; done) | (simp; omega)) | refine Below.then ?_ hb3 (by first | omega | (simp; done) | (simp; omega)) | refine Below.then ?_ hb2 (by first | omega | (simp; done) | (simp; omega)) | refine Below.then ?_ hb1 (by first | omega | (simp; done) | (simp; omega))))⟩
set_option maxRecDepth 100000 in
set_option maxHeartbeats 3200000 in
theorem look_scal (x : Int) (h0 : 0 ≤ x) (h1 : x < 18446744073709551616) (b2 : (x - x % 2 == 0) = false) (b3 : ((x - x % 2) % 8 == 0) = false) (b4 : ((x - x % 2) % 8 == 4) = true) (b5 : x / 8 < 1152921504606846976) (w : World) :
    Calls Try.prog 130 #[.int .u64 x] w fun e w' => e = .returned (.agg #[.int .u64 x, .int .i64 3]) ∧ Below w.heap.size w w' := by
  have hb := andNot_one_u64 x h0 h1
  go_enter Try.func130, Try.ntmps130
  go_wp2_with fail
  refine (rows_calls _).mono ?_; rintro e1 w1 ⟨rfl, hb1⟩; obtain ⟨hc1, hf1⟩ := bcell hb1; have hz1 := hb1.size; (try simp at hz1)
  have q0 := hc1 w.heap.size 0 (by first | omega | (simp; done) | (simp; omega)); simp [go_sem] at q0
  have q1 := hc1 w.heap.size 1 (by first | omega | (simp; done) | (simp; omega)); simp [go_sem] at q1
  have f0 := hf1 w.heap.size 0 (by first | omega | (simp; done) | (simp; omega)); simp [go_sem] at f0
  have f1 := hf1 w.heap.size 1 (by first | omega | (simp; done) | (simp; omega)); simp [go_sem] at f1
  have l0 : w.heap.size < w1.heap.size := by first | omega | (simp; done) | (simp; omega)
  have an0 : ¬ w.heap.size = w1.heap.size := by omega
  have an1 : ¬ w.heap.size = w1.heap.size + 1 := by omega
  have an2 : ¬ w.heap.size = w1.heap.size + 1 + 1 := by omega
  have an3 : ¬ w.heap.size = w1.heap.size + 1 + 1 + 1 := by omega
  have an4 : ¬ w.heap.size = w1.heap.size + 1 + 1 + 1 + 1 := by omega
  have an5 : ¬ w.heap.size = w1.heap.size + 1 + 1 + 1 + 1 + 1 := by omega
  have ax1 : w.heap.size < w1.heap.size + 1 := by omega
  have ax2 : w.heap.size < w1.heap.size + 1 + 1 := by omega
  have ax3 : w.heap.size < w1.heap.size + 1 + 1 + 1 := by omega
  have ax4 : w.heap.size < w1.heap.size + 1 + 1 + 1 + 1 := by omega
  have ax5 : w.heap.size < w1.heap.size + 1 + 1 + 1 + 1 + 1 := by omega
  have i0 := i0_
  have i1 := i1_
  have i2 := i2_
  have i3 := i3_
  go_wp2_with fail
  refine wp_loop_rounds 6 ?_
  rw [rounds_succ]
  go_wp2
  rw [rounds_succ]
  go_wp2
  rw [rounds_succ]
  go_wp2
  rw [rounds_succ]
  go_wp2
  exact bodyPost_ret (v := .agg #[.int .u64 x, .int .i64 3]) (by simp [results, Try.results130, go_sem, q0, q1, l0, Nat.ne_of_lt l0, World.cell?_setCell_same', cell_off, *]) rfl ⟨rfl, by (repeat (first | exact Below.refl _ _ | (with_reducible assumption) | refine Below.drew ?_ | refine Below.drewN' ?_ _ | refine Below.alloc ?_ (by first | omega | (simp; done) | (simp; omega)) _ | refine Below.setCell ?_ (by first | omega | (simp; done) | (simp; omega)) _ | refine Below.then ?_ hb9 (by first | omega | (simp; done) | (simp; omega)) | refine Below.then ?_ hb8 (by first | omega | (simp; done) | (simp; omega)) | refine Below.then ?_ hb7 (by first | omega | (simp; done) | (simp; omega)) | refine Below.then ?_ hb6 (by first | omega | (simp; done) | (simp; omega)) | refine Below.then ?_ hb5 (by first | omega | (simp; done) | (simp; omega)) | refine Below.then ?_ hb4 (by first | omega | (simp; done) | (simp; omega)) | refine Below.then ?_ hb3 (by first | omega | (simp; done) | (simp; omega)) | refine Below.then ?_ hb2 (by first | omega | (simp; done) | (simp; omega)) | refine Below.then ?_ hb1 (by first | omega | (simp; done) | (simp; omega))))⟩
set_option maxRecDepth 100000 in
set_option maxHeartbeats 3200000 in
theorem look_empty (x : Int) (h0 : 0 ≤ x) (h1 : x < 18446744073709551616) (b2 : (x - x % 2 == 0) = false) (b3 : ((x - x % 2) % 8 == 0) = false) (b4 : ((x - x % 2) % 8 == 4) = false) (b6 : (x == 2) = true) (w : World) :
    Calls Try.prog 130 #[.int .u64 x] w fun e w' => e = .returned (.agg #[.int .u64 x, .int .i64 4]) ∧ Below w.heap.size w w' := by
  have hb := andNot_one_u64 x h0 h1
  go_enter Try.func130, Try.ntmps130
  go_wp2_with fail
  refine (rows_calls _).mono ?_; rintro e1 w1 ⟨rfl, hb1⟩; obtain ⟨hc1, hf1⟩ := bcell hb1; have hz1 := hb1.size; (try simp at hz1)
  have q0 := hc1 w.heap.size 0 (by first | omega | (simp; done) | (simp; omega)); simp [go_sem] at q0
  have q1 := hc1 w.heap.size 1 (by first | omega | (simp; done) | (simp; omega)); simp [go_sem] at q1
  have f0 := hf1 w.heap.size 0 (by first | omega | (simp; done) | (simp; omega)); simp [go_sem] at f0
  have f1 := hf1 w.heap.size 1 (by first | omega | (simp; done) | (simp; omega)); simp [go_sem] at f1
  have l0 : w.heap.size < w1.heap.size := by first | omega | (simp; done) | (simp; omega)
  have an0 : ¬ w.heap.size = w1.heap.size := by omega
  have an1 : ¬ w.heap.size = w1.heap.size + 1 := by omega
  have an2 : ¬ w.heap.size = w1.heap.size + 1 + 1 := by omega
  have an3 : ¬ w.heap.size = w1.heap.size + 1 + 1 + 1 := by omega
  have an4 : ¬ w.heap.size = w1.heap.size + 1 + 1 + 1 + 1 := by omega
  have an5 : ¬ w.heap.size = w1.heap.size + 1 + 1 + 1 + 1 + 1 := by omega
  have ax1 : w.heap.size < w1.heap.size + 1 := by omega
  have ax2 : w.heap.size < w1.heap.size + 1 + 1 := by omega
  have ax3 : w.heap.size < w1.heap.size + 1 + 1 + 1 := by omega
  have ax4 : w.heap.size < w1.heap.size + 1 + 1 + 1 + 1 := by omega
  have ax5 : w.heap.size < w1.heap.size + 1 + 1 + 1 + 1 + 1 := by omega
  have i0 := i0_
  have i1 := i1_
  have i2 := i2_
  have i3 := i3_
  have i4 := i4_
  go_wp2_with fail
  refine wp_loop_rounds 6 ?_
  rw [rounds_succ]
  go_wp2
  rw [rounds_succ]
  go_wp2
  rw [rounds_succ]
  go_wp2
  rw [rounds_succ]
  go_wp2
  rw [rounds_succ]
  go_wp2
  exact bodyPost_ret (v := .agg #[.int .u64 x, .int .i64 4]) (by simp [results, Try.results130, go_sem, q0, q1, l0, Nat.ne_of_lt l0, World.cell?_setCell_same', cell_off, *]) rfl ⟨rfl, by (repeat (first | exact Below.refl _ _ | (with_reducible assumption) | refine Below.drew ?_ | refine Below.drewN' ?_ _ | refine Below.alloc ?_ (by first | omega | (simp; done) | (simp; omega)) _ | refine Below.setCell ?_ (by first | omega | (simp; done) | (simp; omega)) _ | refine Below.then ?_ hb9 (by first | omega | (simp; done) | (simp; omega)) | refine Below.then ?_ hb8 (by first | omega | (simp; done) | (simp; omega)) | refine Below.then ?_ hb7 (by first | omega | (simp; done) | (simp; omega)) | refine Below.then ?_ hb6 (by first | omega | (simp; done) | (simp; omega)) | refine Below.then ?_ hb5 (by first | omega | (simp; done) | (simp; omega)) | refine Below.then ?_ hb4 (by first | omega | (simp; done) | (simp; omega)) | refine Below.then ?_ hb3 (by first | omega | (simp; done) | (simp; omega)) | refine Below.then ?_ hb2 (by first | omega | (simp; done) | (simp; omega)) | refine Below.then ?_ hb1 (by first | omega | (simp; done) | (simp; omega))))⟩
set_option maxRecDepth 100000 in
set_option maxHeartbeats 3200000 in
theorem look_bad1 (x : Int) (h0 : 0 ≤ x) (h1 : x < 18446744073709551616) (b2 : (x - x % 2 == 0) = false) (b3 : ((x - x % 2) % 8 == 0) = true) (b4 : ((x - x % 2) % 8 == 4) = false) (b5 : 0 < x / 8) (b7 : 16777215 < x / 8) (b6 : (x == 2) = false) (w : World) :
    Calls Try.prog 130 #[.int .u64 x] w fun e w' => e = .returned (.agg #[.int .u64 0, .int .i64 0]) ∧ Below w.heap.size w w' := by
  have hb := andNot_one_u64 x h0 h1
  go_enter Try.func130, Try.ntmps130
  go_wp2_with fail
  refine (rows_calls _).mono ?_; rintro e1 w1 ⟨rfl, hb1⟩; obtain ⟨hc1, hf1⟩ := bcell hb1; have hz1 := hb1.size; (try simp at hz1)
  have q0 := hc1 w.heap.size 0 (by first | omega | (simp; done) | (simp; omega)); simp [go_sem] at q0
  have q1 := hc1 w.heap.size 1 (by first | omega | (simp; done) | (simp; omega)); simp [go_sem] at q1
  have f0 := hf1 w.heap.size 0 (by first | omega | (simp; done) | (simp; omega)); simp [go_sem] at f0
  have f1 := hf1 w.heap.size 1 (by first | omega | (simp; done) | (simp; omega)); simp [go_sem] at f1
  have l0 : w.heap.size < w1.heap.size := by first | omega | (simp; done) | (simp; omega)
  have an0 : ¬ w.heap.size = w1.heap.size := by omega
  have an1 : ¬ w.heap.size = w1.heap.size + 1 := by omega
  have an2 : ¬ w.heap.size = w1.heap.size + 1 + 1 := by omega
  have an3 : ¬ w.heap.size = w1.heap.size + 1 + 1 + 1 := by omega
  have an4 : ¬ w.heap.size = w1.heap.size + 1 + 1 + 1 + 1 := by omega
  have an5 : ¬ w.heap.size = w1.heap.size + 1 + 1 + 1 + 1 + 1 := by omega
  have ax1 : w.heap.size < w1.heap.size + 1 := by omega
  have ax2 : w.heap.size < w1.heap.size + 1 + 1 := by omega
  have ax3 : w.heap.size < w1.heap.size + 1 + 1 + 1 := by omega
  have ax4 : w.heap.size < w1.heap.size + 1 + 1 + 1 + 1 := by omega
  have ax5 : w.heap.size < w1.heap.size + 1 + 1 + 1 + 1 + 1 := by omega
  have i0 := i0_
  have i1 := i1_
  have i2 := i2_
  have i3 := i3_
  have i4 := i4_
  go_wp2_with fail
  refine wp_loop_rounds 6 ?_
  rw [rounds_succ]
  go_wp2
  rw [rounds_succ]
  go_wp2
  rw [rounds_succ]
  go_wp2
  rw [rounds_succ]
  go_wp2
  rw [rounds_succ]
  go_wp2
  rw [rounds_succ]
  go_wp2
  exact bodyPost_ret (v := .agg #[.int .u64 0, .int .i64 0]) (by simp [results, Try.results130, go_sem, q0, q1, l0, Nat.ne_of_lt l0, World.cell?_setCell_same', cell_off, *]) rfl ⟨rfl, by (repeat (first | exact Below.refl _ _ | (with_reducible assumption) | refine Below.drew ?_ | refine Below.drewN' ?_ _ | refine Below.alloc ?_ (by first | omega | (simp; done) | (simp; omega)) _ | refine Below.setCell ?_ (by first | omega | (simp; done) | (simp; omega)) _ | refine Below.then ?_ hb9 (by first | omega | (simp; done) | (simp; omega)) | refine Below.then ?_ hb8 (by first | omega | (simp; done) | (simp; omega)) | refine Below.then ?_ hb7 (by first | omega | (simp; done) | (simp; omega)) | refine Below.then ?_ hb6 (by first | omega | (simp; done) | (simp; omega)) | refine Below.then ?_ hb5 (by first | omega | (simp; done) | (simp; omega)) | refine Below.then ?_ hb4 (by first | omega | (simp; done) | (simp; omega)) | refine Below.then ?_ hb3 (by first | omega | (simp; done) | (simp; omega)) | refine Below.then ?_ hb2 (by first | omega | (simp; done) | (simp; omega)) | refine Below.then ?_ hb1 (by first | omega | (simp; done) | (simp; omega))))⟩
set_option maxRecDepth 100000 in
set_option maxHeartbeats 3200000 in
theorem look_bad2 (x : Int) (h0 : 0 ≤ x) (h1 : x < 18446744073709551616) (b2 : (x - x % 2 == 0) = false) (b3 : ((x - x % 2) % 8 == 0) = false) (b4 : ((x - x % 2) % 8 == 4) = true) (b5 : 1152921504606846976 ≤ x / 8) (b6 : (x == 2) = false) (w : World) :
    Calls Try.prog 130 #[.int .u64 x] w fun e w' => e = .returned (.agg #[.int .u64 0, .int .i64 0]) ∧ Below w.heap.size w w' := by
  have hb := andNot_one_u64 x h0 h1
  go_enter Try.func130, Try.ntmps130
  go_wp2_with fail
  refine (rows_calls _).mono ?_; rintro e1 w1 ⟨rfl, hb1⟩; obtain ⟨hc1, hf1⟩ := bcell hb1; have hz1 := hb1.size; (try simp at hz1)
  have q0 := hc1 w.heap.size 0 (by first | omega | (simp; done) | (simp; omega)); simp [go_sem] at q0
  have q1 := hc1 w.heap.size 1 (by first | omega | (simp; done) | (simp; omega)); simp [go_sem] at q1
  have f0 := hf1 w.heap.size 0 (by first | omega | (simp; done) | (simp; omega)); simp [go_sem] at f0
  have f1 := hf1 w.heap.size 1 (by first | omega | (simp; done) | (simp; omega)); simp [go_sem] at f1
  have l0 : w.heap.size < w1.heap.size := by first | omega | (simp; done) | (simp; omega)
  have an0 : ¬ w.heap.size = w1.heap.size := by omega
  have an1 : ¬ w.heap.size = w1.heap.size + 1 := by omega
  have an2 : ¬ w.heap.size = w1.heap.size + 1 + 1 := by omega
  have an3 : ¬ w.heap.size = w1.heap.size + 1 + 1 + 1 := by omega
  have an4 : ¬ w.heap.size = w1.heap.size + 1 + 1 + 1 + 1 := by omega
  have an5 : ¬ w.heap.size = w1.heap.size + 1 + 1 + 1 + 1 + 1 := by omega
  have ax1 : w.heap.size < w1.heap.size + 1 := by omega
  have ax2 : w.heap.size < w1.heap.size + 1 + 1 := by omega
  have ax3 : w.heap.size < w1.heap.size + 1 + 1 + 1 := by omega
  have ax4 : w.heap.size < w1.heap.size + 1 + 1 + 1 + 1 := by omega
  have ax5 : w.heap.size < w1.heap.size + 1 + 1 + 1 + 1 + 1 := by omega
  have i0 := i0_
  have i1 := i1_
  have i2 := i2_
  have i3 := i3_
  have i4 := i4_
  go_wp2_with fail
  refine wp_loop_rounds 6 ?_
  rw [rounds_succ]
  go_wp2
  rw [rounds_succ]
  go_wp2
  rw [rounds_succ]
  go_wp2
  rw [rounds_succ]
  go_wp2
  rw [rounds_succ]
  go_wp2
  rw [rounds_succ]
  go_wp2
  exact bodyPost_ret (v := .agg #[.int .u64 0, .int .i64 0]) (by simp [results, Try.results130, go_sem, q0, q1, l0, Nat.ne_of_lt l0, World.cell?_setCell_same', cell_off, *]) rfl ⟨rfl, by (repeat (first | exact Below.refl _ _ | (with_reducible assumption) | refine Below.drew ?_ | refine Below.drewN' ?_ _ | refine Below.alloc ?_ (by first | omega | (simp; done) | (simp; omega)) _ | refine Below.setCell ?_ (by first | omega | (simp; done) | (simp; omega)) _ | refine Below.then ?_ hb9 (by first | omega | (simp; done) | (simp; omega)) | refine Below.then ?_ hb8 (by first | omega | (simp; done) | (simp; omega)) | refine Below.then ?_ hb7 (by first | omega | (simp; done) | (simp; omega)) | refine Below.then ?_ hb6 (by first | omega | (simp; done) | (simp; omega)) | refine Below.then ?_ hb5 (by first | omega | (simp; done) | (simp; omega)) | refine Below.then ?_ hb4 (by first | omega | (simp; done) | (simp; omega)) | refine Below.then ?_ hb3 (by first | omega | (simp; done) | (simp; omega)) | refine Below.then ?_ hb2 (by first | omega | (simp; done) | (simp; omega)) | refine Below.then ?_ hb1 (by first | omega | (simp; done) | (simp; omega))))⟩
set_option maxRecDepth 100000 in
set_option maxHeartbeats 3200000 in
theorem look_bad3 (x : Int) (h0 : 0 ≤ x) (h1 : x < 18446744073709551616) (b2 : (x - x % 2 == 0) = false) (b3 : ((x - x % 2) % 8 == 0) = false) (b4 : ((x - x % 2) % 8 == 4) = false) (b6 : (x == 2) = false) (w : World) :
    Calls Try.prog 130 #[.int .u64 x] w fun e w' => e = .returned (.agg #[.int .u64 0, .int .i64 0]) ∧ Below w.heap.size w w' := by
  have hb := andNot_one_u64 x h0 h1
  go_enter Try.func130, Try.ntmps130
  go_wp2_with fail
  refine (rows_calls _).mono ?_; rintro e1 w1 ⟨rfl, hb1⟩; obtain ⟨hc1, hf1⟩ := bcell hb1; have hz1 := hb1.size; (try simp at hz1)
  have q0 := hc1 w.heap.size 0 (by first | omega | (simp; done) | (simp; omega)); simp [go_sem] at q0
  have q1 := hc1 w.heap.size 1 (by first | omega | (simp; done) | (simp; omega)); simp [go_sem] at q1
  have f0 := hf1 w.heap.size 0 (by first | omega | (simp; done) | (simp; omega)); simp [go_sem] at f0
  have f1 := hf1 w.heap.size 1 (by first | omega | (simp; done) | (simp; omega)); simp [go_sem] at f1
  have l0 : w.heap.size < w1.heap.size := by first | omega | (simp; done) | (simp; omega)
  have an0 : ¬ w.heap.size = w1.heap.size := by omega
  have an1 : ¬ w.heap.size = w1.heap.size + 1 := by omega
  have an2 : ¬ w.heap.size = w1.heap.size + 1 + 1 := by omega
  have an3 : ¬ w.heap.size = w1.heap.size + 1 + 1 + 1 := by omega
  have an4 : ¬ w.heap.size = w1.heap.size + 1 + 1 + 1 + 1 := by omega
  have an5 : ¬ w.heap.size = w1.heap.size + 1 + 1 + 1 + 1 + 1 := by omega
  have ax1 : w.heap.size < w1.heap.size + 1 := by omega
  have ax2 : w.heap.size < w1.heap.size + 1 + 1 := by omega
  have ax3 : w.heap.size < w1.heap.size + 1 + 1 + 1 := by omega
  have ax4 : w.heap.size < w1.heap.size + 1 + 1 + 1 + 1 := by omega
  have ax5 : w.heap.size < w1.heap.size + 1 + 1 + 1 + 1 + 1 := by omega
  have i0 := i0_
  have i1 := i1_
  have i2 := i2_
  have i3 := i3_
  have i4 := i4_
  go_wp2_with fail
  refine wp_loop_rounds 6 ?_
  rw [rounds_succ]
  go_wp2
  rw [rounds_succ]
  go_wp2
  rw [rounds_succ]
  go_wp2
  rw [rounds_succ]
  go_wp2
  rw [rounds_succ]
  go_wp2
  rw [rounds_succ]
  go_wp2
  exact bodyPost_ret (v := .agg #[.int .u64 0, .int .i64 0]) (by simp [results, Try.results130, go_sem, q0, q1, l0, Nat.ne_of_lt l0, World.cell?_setCell_same', cell_off, *]) rfl ⟨rfl, by (repeat (first | exact Below.refl _ _ | (with_reducible assumption) | refine Below.drew ?_ | refine Below.drewN' ?_ _ | refine Below.alloc ?_ (by first | omega | (simp; done) | (simp; omega)) _ | refine Below.setCell ?_ (by first | omega | (simp; done) | (simp; omega)) _ | refine Below.then ?_ hb9 (by first | omega | (simp; done) | (simp; omega)) | refine Below.then ?_ hb8 (by first | omega | (simp; done) | (simp; omega)) | refine Below.then ?_ hb7 (by first | omega | (simp; done) | (simp; omega)) | refine Below.then ?_ hb6 (by first | omega | (simp; done) | (simp; omega)) | refine Below.then ?_ hb5 (by first | omega | (simp; done) | (simp; omega)) | refine Below.then ?_ hb4 (by first | omega | (simp; done) | (simp; omega)) | refine Below.then ?_ hb3 (by first | omega | (simp; done) | (simp; omega)) | refine Below.then ?_ hb2 (by first | omega | (simp; done) | (simp; omega)) | refine Below.then ?_ hb1 (by first | omega | (simp; done) | (simp; omega))))⟩

theorem look_calls (x : Int) (h0 : 0 ≤ x) (h1 : x < 18446744073709551616) (w : World) :
    Calls Try.prog 130 #[.int .u64 x] w fun e w' => e = .returned (.agg #[.int .u64 (lookB x), .int .i64 (wdK x)]) ∧ Below w.heap.size w w' := by
  have hd : (x - x % 2) / 8 = x / 8 := by omega
  by_cases a2 : x = 2
  · have e1 : wdK x = 4 := by simp [wdK, a2]
    have e2 : lookB x = x := by simp [lookB, e1]
    rw [e1, e2]
    subst a2
    exact look_empty 2 h0 h1 (by decide) (by decide) (by decide) (by decide) w
  by_cases a0 : x - x % 2 = 0
  · have e1 : wdK x = 1 := by simp [wdK, a2, wEven, a0]
    have e2 : lookB x = x := by simp [lookB, e1]
    rw [e1, e2]
    exact look_null x h0 h1 (by simpa using a0) w
  have c0 : (x - x % 2 == 0) = false := by simpa using a0
  by_cases a8 : (x - x % 2) % 8 = 0
  · have c8 : ((x - x % 2) % 8 == 0) = true := by simpa using a8
    by_cases ad : x / 8 ≤ 16777215
    · have e1 : wdK x = 2 := by unfold wdK wEven; rw [if_neg a2, if_neg a0, if_pos ⟨a8, by omega⟩]
      have e2 : lookB x = x := by simp [lookB, e1]
      rw [e1, e2]
      exact look_ptr x h0 h1 c0 c8 (by omega) ad w
    · have e1 : wdK x = 0 := by unfold wdK wEven; rw [if_neg a2, if_neg a0, if_neg (by omega), if_neg (by omega)]
      have e2 : lookB x = 0 := by simp [lookB, e1]
      rw [e1, e2]
      exact look_bad1 x h0 h1 c0 c8 (by simp [a8]) (by omega) (by omega) (by simpa using a2) w
  · have c8 : ((x - x % 2) % 8 == 0) = false := by simpa using a8
    by_cases a4 : (x - x % 2) % 8 = 4
    · have c4 : ((x - x % 2) % 8 == 4) = true := by simpa using a4
      by_cases ad : x / 8 < 1152921504606846976
      · have e1 : wdK x = 3 := by unfold wdK wEven; rw [if_neg a2, if_neg a0, if_neg (by omega), if_pos ⟨a4, by omega⟩]
        have e2 : lookB x = x := by simp [lookB, e1]
        rw [e1, e2]
        exact look_scal x h0 h1 c0 c8 c4 ad w
      · have e1 : wdK x = 0 := by unfold wdK wEven; rw [if_neg a2, if_neg a0, if_neg (by omega), if_neg (by omega)]
        have e2 : lookB x = 0 := by simp [lookB, e1]
        rw [e1, e2]
        exact look_bad2 x h0 h1 c0 c8 c4 (by omega) (by simpa using a2) w
    · have e1 : wdK x = 0 := by unfold wdK wEven; rw [if_neg a2, if_neg a0, if_neg (by omega), if_neg (by omega)]
      have e2 : lookB x = 0 := by simp [lookB, e1]
      rw [e1, e2]
      exact look_bad3 x h0 h1 c0 c8 (by simpa using a4) (by simpa using a2) w

end Go.Proofs.Ytafenndokmccoaa
