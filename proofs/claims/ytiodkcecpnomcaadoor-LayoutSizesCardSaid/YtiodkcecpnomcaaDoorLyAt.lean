/- The reference of layer 'layout': where a part's word stands. -/
import Derived.Test.YtiodkcecpnomcaaDoorLayAt
import Derived.Deep.RegionWith
import Derived.Deep.RegionHeld3
namespace Go.Proofs.YtiodkcecpnomcaaDoor
open Go.RowKit
set_option linter.unusedVariables false
set_option linter.unusedSimpArgs false

set_option maxHeartbeats 800000 in
theorem lyBase_calls (t sp : Int) (a : Option Addr) (c m : Nat) (n : Int) (hn : n = 0 ∨ n = 1) (b1 : 1 ≤ t) (b2 : t ≤ 8) (b3 : 32 ≤ sp) (b4 : sp ≤ 4096) (w : World) :
    Calls Tryd.prog 17 #[.agg #[.int .i64 t, .int .i64 sp, .slice a m c], .int .i64 n] w fun e w' => e = .returned (.int .i64 (3 + 2 * t + n * sp)) ∧ Below w.heap.size w w' := by
  rcases hn with rfl | rfl
  · go_enter Tryd.func17, Tryd.ntmps17
    go_wp2
    go_ret
    exact ⟨by simp, by (repeat (first | exact Below.refl _ _ | (with_reducible assumption) | refine Below.drew ?_ | refine Below.drewN' ?_ _ | refine Below.alloc ?_ (by first | omega | (simp; done) | (simp; omega)) _ | refine Below.setCell ?_ (by first | omega | (simp; done) | (simp; omega)) _ | refine Below.then ?_ hb9 (by first | omega | (simp; done) | (simp; omega)) | refine Below.then ?_ hb8 (by first | omega | (simp; done) | (simp; omega)) | refine Below.then ?_ hb7 (by first | omega | (simp; done) | (simp; omega)) | refine Below.then ?_ hb6 (by first | omega | (simp; done) | (simp; omega)) | refine Below.then ?_ hb5 (by first | omega | (simp; done) | (simp; omega)) | refine Below.then ?_ hb4 (by first | omega | (simp; done) | (simp; omega)) | refine Below.then ?_ hb3 (by first | omega | (simp; done) | (simp; omega)) | refine Below.then ?_ hb2 (by first | omega | (simp; done) | (simp; omega)) | refine Below.then ?_ hb1 (by first | omega | (simp; done) | (simp; omega))))⟩
  · go_enter Tryd.func17, Tryd.ntmps17
    go_wp2
    go_ret
    exact ⟨by simp, by (repeat (first | exact Below.refl _ _ | (with_reducible assumption) | refine Below.drew ?_ | refine Below.drewN' ?_ _ | refine Below.alloc ?_ (by first | omega | (simp; done) | (simp; omega)) _ | refine Below.setCell ?_ (by first | omega | (simp; done) | (simp; omega)) _ | refine Below.then ?_ hb9 (by first | omega | (simp; done) | (simp; omega)) | refine Below.then ?_ hb8 (by first | omega | (simp; done) | (simp; omega)) | refine Below.then ?_ hb7 (by first | omega | (simp; done) | (simp; omega)) | refine Below.then ?_ hb6 (by first | omega | (simp; done) | (simp; omega)) | refine Below.then ?_ hb5 (by first | omega | (simp; done) | (simp; omega)) | refine Below.then ?_ hb4 (by first | omega | (simp; done) | (simp; omega)) | refine Below.then ?_ hb3 (by first | omega | (simp; done) | (simp; omega)) | refine Below.then ?_ hb2 (by first | omega | (simp; done) | (simp; omega)) | refine Below.then ?_ hb1 (by first | omega | (simp; done) | (simp; omega))))⟩

set_option maxRecDepth 100000 in
set_option maxHeartbeats 6400000 in
theorem lyAt_calls (t sp : Int) (a : Option Addr) (c : Nat) (ss : List ByteArray) (k n x : Int) (hp : planB t sp ss = true) (w : World) :
    Calls Tryd.prog 23 #[.agg #[.int .i64 t, .int .i64 sp, .slice a ss.length c], .agg #[.int .i64 k, .int .i64 n, .int .i64 x]] w fun e w' =>
      e = .returned (.tuple #[.int .i64 (atV t sp ss k n x), .int .i64 (atE t sp ss k n x)]) ∧ Below w.heap.size w w' := by
  obtain ⟨b1, b2, b3, b4, _⟩ := plan_ok hp
  by_cases k0 : k < 1
  · obtain ⟨e2, e3⟩ := at_refused (t := t) (sp := sp) (ss := ss) (k := k) (n := n) (x := x) (by omega)
    rw [e2, e3]
    clear e2 e3 hp
    go_enter Tryd.func23, Tryd.ntmps23
    go_wp2_with (first | (go_at_call 15; go_in) | (go_at_call 16; go_in) | (go_at_call 17; go_in))
    go_ret2
    exact ⟨rfl, by (repeat (first | exact Below.refl _ _ | (with_reducible assumption) | refine Below.drew ?_ | refine Below.drewN' ?_ _ | refine Below.alloc ?_ (by first | omega | (simp; done) | (simp; omega)) _ | refine Below.setCell ?_ (by first | omega | (simp; done) | (simp; omega)) _ | refine Below.then ?_ hb9 (by first | omega | (simp; done) | (simp; omega)) | refine Below.then ?_ hb8 (by first | omega | (simp; done) | (simp; omega)) | refine Below.then ?_ hb7 (by first | omega | (simp; done) | (simp; omega)) | refine Below.then ?_ hb6 (by first | omega | (simp; done) | (simp; omega)) | refine Below.then ?_ hb5 (by first | omega | (simp; done) | (simp; omega)) | refine Below.then ?_ hb4 (by first | omega | (simp; done) | (simp; omega)) | refine Below.then ?_ hb3 (by first | omega | (simp; done) | (simp; omega)) | refine Below.then ?_ hb2 (by first | omega | (simp; done) | (simp; omega)) | refine Below.then ?_ hb1 (by first | omega | (simp; done) | (simp; omega))))⟩
  by_cases k7 : 6 < k
  · obtain ⟨e2, e3⟩ := at_refused (t := t) (sp := sp) (ss := ss) (k := k) (n := n) (x := x) (by omega)
    rw [e2, e3]
    clear e2 e3 hp
    go_enter Tryd.func23, Tryd.ntmps23
    go_wp2_with (first | (go_at_call 15; go_in) | (go_at_call 16; go_in) | (go_at_call 17; go_in))
    go_ret2
    exact ⟨rfl, by (repeat (first | exact Below.refl _ _ | (with_reducible assumption) | refine Below.drew ?_ | refine Below.drewN' ?_ _ | refine Below.alloc ?_ (by first | omega | (simp; done) | (simp; omega)) _ | refine Below.setCell ?_ (by first | omega | (simp; done) | (simp; omega)) _ | refine Below.then ?_ hb9 (by first | omega | (simp; done) | (simp; omega)) | refine Below.then ?_ hb8 (by first | omega | (simp; done) | (simp; omega)) | refine Below.then ?_ hb7 (by first | omega | (simp; done) | (simp; omega)) | refine Below.then ?_ hb6 (by first | omega | (simp; done) | (simp; omega)) | refine Below.then ?_ hb5 (by first | omega | (simp; done) | (simp; omega)) | refine Below.then ?_ hb4 (by first | omega | (simp; done) | (simp; omega)) | refine Below.then ?_ hb3 (by first | omega | (simp; done) | (simp; omega)) | refine Below.then ?_ hb2 (by first | omega | (simp; done) | (simp; omega)) | refine Below.then ?_ hb1 (by first | omega | (simp; done) | (simp; omega))))⟩
  by_cases k6 : k = 6
  · subst k6
    clear k0 k7
    have hg : planB t sp ss = true ∧ 1 ≤ (6 : Int) ∧ (6 : Int) ≤ 6 ∧ ((6 : Int) < 4 → n = 0) ∧ ((6 : Int) < 6 → x = 0) := ⟨hp, by decide, by decide, fun h => by omega, fun h => by omega⟩
    have out : n < 0 ∨ 2 ≤ n ∨ x < 0 ∨ sp ≤ x → atE t sp ss 6 n x = 4 ∧ atV t sp ss 6 n x = 0 := fun h => at_out hg (by rw [if_pos rfl]; omega)
    by_cases n0 : n < 0
    · obtain ⟨e2, e3⟩ := out (by omega)
      rw [e2, e3]
      clear e2 e3 hp hg out
      go_enter Tryd.func23, Tryd.ntmps23
      go_wp2_with (first | (go_at_call 15; go_in) | (go_at_call 16; go_in) | (go_at_call 17; go_in))
      go_ret2
      exact ⟨rfl, by (repeat (first | exact Below.refl _ _ | (with_reducible assumption) | refine Below.drew ?_ | refine Below.drewN' ?_ _ | refine Below.alloc ?_ (by first | omega | (simp; done) | (simp; omega)) _ | refine Below.setCell ?_ (by first | omega | (simp; done) | (simp; omega)) _ | refine Below.then ?_ hb9 (by first | omega | (simp; done) | (simp; omega)) | refine Below.then ?_ hb8 (by first | omega | (simp; done) | (simp; omega)) | refine Below.then ?_ hb7 (by first | omega | (simp; done) | (simp; omega)) | refine Below.then ?_ hb6 (by first | omega | (simp; done) | (simp; omega)) | refine Below.then ?_ hb5 (by first | omega | (simp; done) | (simp; omega)) | refine Below.then ?_ hb4 (by first | omega | (simp; done) | (simp; omega)) | refine Below.then ?_ hb3 (by first | omega | (simp; done) | (simp; omega)) | refine Below.then ?_ hb2 (by first | omega | (simp; done) | (simp; omega)) | refine Below.then ?_ hb1 (by first | omega | (simp; done) | (simp; omega))))⟩
    by_cases n1 : 2 ≤ n
    · obtain ⟨e2, e3⟩ := out (by omega)
      rw [e2, e3]
      clear e2 e3 hp hg out
      go_enter Tryd.func23, Tryd.ntmps23
      go_wp2_with (first | (go_at_call 15; go_in) | (go_at_call 16; go_in) | (go_at_call 17; go_in))
      go_ret2
      exact ⟨rfl, by (repeat (first | exact Below.refl _ _ | (with_reducible assumption) | refine Below.drew ?_ | refine Below.drewN' ?_ _ | refine Below.alloc ?_ (by first | omega | (simp; done) | (simp; omega)) _ | refine Below.setCell ?_ (by first | omega | (simp; done) | (simp; omega)) _ | refine Below.then ?_ hb9 (by first | omega | (simp; done) | (simp; omega)) | refine Below.then ?_ hb8 (by first | omega | (simp; done) | (simp; omega)) | refine Below.then ?_ hb7 (by first | omega | (simp; done) | (simp; omega)) | refine Below.then ?_ hb6 (by first | omega | (simp; done) | (simp; omega)) | refine Below.then ?_ hb5 (by first | omega | (simp; done) | (simp; omega)) | refine Below.then ?_ hb4 (by first | omega | (simp; done) | (simp; omega)) | refine Below.then ?_ hb3 (by first | omega | (simp; done) | (simp; omega)) | refine Below.then ?_ hb2 (by first | omega | (simp; done) | (simp; omega)) | refine Below.then ?_ hb1 (by first | omega | (simp; done) | (simp; omega))))⟩
    by_cases x0 : x < 0
    · obtain ⟨e2, e3⟩ := out (by omega)
      rw [e2, e3]
      clear e2 e3 hp hg out
      go_enter Tryd.func23, Tryd.ntmps23
      go_wp2_with (first | (go_at_call 15; go_in) | (go_at_call 16; go_in) | (go_at_call 17; go_in))
      go_ret2
      exact ⟨rfl, by (repeat (first | exact Below.refl _ _ | (with_reducible assumption) | refine Below.drew ?_ | refine Below.drewN' ?_ _ | refine Below.alloc ?_ (by first | omega | (simp; done) | (simp; omega)) _ | refine Below.setCell ?_ (by first | omega | (simp; done) | (simp; omega)) _ | refine Below.then ?_ hb9 (by first | omega | (simp; done) | (simp; omega)) | refine Below.then ?_ hb8 (by first | omega | (simp; done) | (simp; omega)) | refine Below.then ?_ hb7 (by first | omega | (simp; done) | (simp; omega)) | refine Below.then ?_ hb6 (by first | omega | (simp; done) | (simp; omega)) | refine Below.then ?_ hb5 (by first | omega | (simp; done) | (simp; omega)) | refine Below.then ?_ hb4 (by first | omega | (simp; done) | (simp; omega)) | refine Below.then ?_ hb3 (by first | omega | (simp; done) | (simp; omega)) | refine Below.then ?_ hb2 (by first | omega | (simp; done) | (simp; omega)) | refine Below.then ?_ hb1 (by first | omega | (simp; done) | (simp; omega))))⟩
    by_cases x1 : sp ≤ x
    · obtain ⟨e2, e3⟩ := out (by omega)
      rw [e2, e3]
      clear e2 e3 hp hg out
      go_enter Tryd.func23, Tryd.ntmps23
      go_wp2_with (first | (go_at_call 15; go_in) | (go_at_call 16; go_in) | (go_at_call 17; go_in))
      go_ret2
      exact ⟨rfl, by (repeat (first | exact Below.refl _ _ | (with_reducible assumption) | refine Below.drew ?_ | refine Below.drewN' ?_ _ | refine Below.alloc ?_ (by first | omega | (simp; done) | (simp; omega)) _ | refine Below.setCell ?_ (by first | omega | (simp; done) | (simp; omega)) _ | refine Below.then ?_ hb9 (by first | omega | (simp; done) | (simp; omega)) | refine Below.then ?_ hb8 (by first | omega | (simp; done) | (simp; omega)) | refine Below.then ?_ hb7 (by first | omega | (simp; done) | (simp; omega)) | refine Below.then ?_ hb6 (by first | omega | (simp; done) | (simp; omega)) | refine Below.then ?_ hb5 (by first | omega | (simp; done) | (simp; omega)) | refine Below.then ?_ hb4 (by first | omega | (simp; done) | (simp; omega)) | refine Below.then ?_ hb3 (by first | omega | (simp; done) | (simp; omega)) | refine Below.then ?_ hb2 (by first | omega | (simp; done) | (simp; omega)) | refine Below.then ?_ hb1 (by first | omega | (simp; done) | (simp; omega))))⟩
    obtain ⟨e2, e3⟩ := at_in hg (by rw [if_pos rfl]; omega)
    rw [if_neg (by decide), if_neg (by decide), if_neg (by decide)] at e3
    rw [e2, e3]
    clear e2 e3 hp hg out
    rcases (show n = 0 ∨ n = 1 by omega) with rfl | rfl
    · clear n0 n1
      have HB := Lib.hid (fun w => lyBase_calls t sp a c ss.length 0 (.inl rfl) b1 b2 b3 b4 w)
      go_enter Tryd.func23, Tryd.ntmps23
      go_wp2
      have keepS := Lib.hid (show ∀ A B : World, (A.cell? ⟨w.heap.size, 0, none⟩ = some (.int .i64 t) ∧ A.cell? ⟨w.heap.size, 1, none⟩ = some (.int .i64 sp) ∧ A.cell? ⟨w.heap.size, 2, none⟩ = some (.slice a ss.length c) ∧ A.cell? ⟨w.heap.size + 1, 1, none⟩ = some (.int .i64 0) ∧ A.cell? ⟨w.heap.size + 1, 2, none⟩ = some (.int .i64 x) ∧ w.heap.size + 2 ≤ A.heap.size) → Below A.heap.size A B → (B.cell? ⟨w.heap.size, 0, none⟩ = some (.int .i64 t) ∧ B.cell? ⟨w.heap.size, 1, none⟩ = some (.int .i64 sp) ∧ B.cell? ⟨w.heap.size, 2, none⟩ = some (.slice a ss.length c) ∧ B.cell? ⟨w.heap.size + 1, 1, none⟩ = some (.int .i64 0) ∧ B.cell? ⟨w.heap.size + 1, 2, none⟩ = some (.int .i64 x) ∧ w.heap.size + 2 ≤ B.heap.size) from fun A B hc hb => ⟨hold_cell hc.1 hb (by simp; omega), hold_cell hc.2.1 hb (by simp; omega), hold_cell hc.2.2.1 hb (by simp; omega), hold_cell hc.2.2.2.1 hb (by simp; omega), hold_cell hc.2.2.2.2.1 hb (by simp; omega), Nat.le_trans hc.2.2.2.2.2 hb.size⟩)
      go_region_held3 (fun w' => w'.cell? ⟨w.heap.size, 0, none⟩ = some (.int .i64 t) ∧ w'.cell? ⟨w.heap.size, 1, none⟩ = some (.int .i64 sp) ∧ w'.cell? ⟨w.heap.size, 2, none⟩ = some (.slice a ss.length c) ∧ w'.cell? ⟨w.heap.size + 1, 1, none⟩ = some (.int .i64 0) ∧ w'.cell? ⟨w.heap.size + 1, 2, none⟩ = some (.int .i64 x) ∧ w.heap.size + 2 ≤ w'.heap.size) (first | (simp [go_sem]; done) | exact keepS.out _ _ (by assumption) hb1 | (simp [*, go_sem]; done)) (first | (go_at_call 17; refine (HB.out _).mono ?_; rintro e1 w1 ⟨rfl, hb1⟩; have hz1 := hb1.size; (try simp at hz1)))
      all_goals
        go_wp2
        go_ret2
        exact ⟨by simp; exact IntWalk.i64_in _ (by omega), by (repeat (first | exact Below.refl _ _ | (with_reducible assumption) | refine Below.drew ?_ | refine Below.drewN' ?_ _ | refine Below.alloc ?_ (by first | omega | (simp; done) | (simp; omega)) _ | refine Below.setCell ?_ (by first | omega | (simp; done) | (simp; omega)) _ | refine Below.then ?_ hb9 (by first | omega | (simp; done) | (simp; omega)) | refine Below.then ?_ hb8 (by first | omega | (simp; done) | (simp; omega)) | refine Below.then ?_ hb7 (by first | omega | (simp; done) | (simp; omega)) | refine Below.then ?_ hb6 (by first | omega | (simp; done) | (simp; omega)) | refine Below.then ?_ hb5 (by first | omega | (simp; done) | (simp; omega)) | refine Below.then ?_ hb4 (by first | omega | (simp; done) | (simp; omega)) | refine Below.then ?_ hb3 (by first | omega | (simp; done) | (simp; omega)) | refine Below.then ?_ hb2 (by first | omega | (simp; done) | (simp; omega)) | refine Below.then ?_ hb1 (by first | omega | (simp; done) | (simp; omega))))⟩
    · clear n0 n1
      have HB := Lib.hid (fun w => lyBase_calls t sp a c ss.length 1 (.inr rfl) b1 b2 b3 b4 w)
      go_enter Tryd.func23, Tryd.ntmps23
      go_wp2
      have keepS := Lib.hid (show ∀ A B : World, (A.cell? ⟨w.heap.size, 0, none⟩ = some (.int .i64 t) ∧ A.cell? ⟨w.heap.size, 1, none⟩ = some (.int .i64 sp) ∧ A.cell? ⟨w.heap.size, 2, none⟩ = some (.slice a ss.length c) ∧ A.cell? ⟨w.heap.size + 1, 1, none⟩ = some (.int .i64 1) ∧ A.cell? ⟨w.heap.size + 1, 2, none⟩ = some (.int .i64 x) ∧ w.heap.size + 2 ≤ A.heap.size) → Below A.heap.size A B → (B.cell? ⟨w.heap.size, 0, none⟩ = some (.int .i64 t) ∧ B.cell? ⟨w.heap.size, 1, none⟩ = some (.int .i64 sp) ∧ B.cell? ⟨w.heap.size, 2, none⟩ = some (.slice a ss.length c) ∧ B.cell? ⟨w.heap.size + 1, 1, none⟩ = some (.int .i64 1) ∧ B.cell? ⟨w.heap.size + 1, 2, none⟩ = some (.int .i64 x) ∧ w.heap.size + 2 ≤ B.heap.size) from fun A B hc hb => ⟨hold_cell hc.1 hb (by simp; omega), hold_cell hc.2.1 hb (by simp; omega), hold_cell hc.2.2.1 hb (by simp; omega), hold_cell hc.2.2.2.1 hb (by simp; omega), hold_cell hc.2.2.2.2.1 hb (by simp; omega), Nat.le_trans hc.2.2.2.2.2 hb.size⟩)
      go_region_held3 (fun w' => w'.cell? ⟨w.heap.size, 0, none⟩ = some (.int .i64 t) ∧ w'.cell? ⟨w.heap.size, 1, none⟩ = some (.int .i64 sp) ∧ w'.cell? ⟨w.heap.size, 2, none⟩ = some (.slice a ss.length c) ∧ w'.cell? ⟨w.heap.size + 1, 1, none⟩ = some (.int .i64 1) ∧ w'.cell? ⟨w.heap.size + 1, 2, none⟩ = some (.int .i64 x) ∧ w.heap.size + 2 ≤ w'.heap.size) (first | (simp [go_sem]; done) | exact keepS.out _ _ (by assumption) hb1 | (simp [*, go_sem]; done)) (first | (go_at_call 17; refine (HB.out _).mono ?_; rintro e1 w1 ⟨rfl, hb1⟩; have hz1 := hb1.size; (try simp at hz1)))
      all_goals
        go_wp2
        go_ret2
        exact ⟨by simp; exact IntWalk.i64_in _ (by omega), by (repeat (first | exact Below.refl _ _ | (with_reducible assumption) | refine Below.drew ?_ | refine Below.drewN' ?_ _ | refine Below.alloc ?_ (by first | omega | (simp; done) | (simp; omega)) _ | refine Below.setCell ?_ (by first | omega | (simp; done) | (simp; omega)) _ | refine Below.then ?_ hb9 (by first | omega | (simp; done) | (simp; omega)) | refine Below.then ?_ hb8 (by first | omega | (simp; done) | (simp; omega)) | refine Below.then ?_ hb7 (by first | omega | (simp; done) | (simp; omega)) | refine Below.then ?_ hb6 (by first | omega | (simp; done) | (simp; omega)) | refine Below.then ?_ hb5 (by first | omega | (simp; done) | (simp; omega)) | refine Below.then ?_ hb4 (by first | omega | (simp; done) | (simp; omega)) | refine Below.then ?_ hb3 (by first | omega | (simp; done) | (simp; omega)) | refine Below.then ?_ hb2 (by first | omega | (simp; done) | (simp; omega)) | refine Below.then ?_ hb1 (by first | omega | (simp; done) | (simp; omega))))⟩
  by_cases k4 : k = 4
  · subst k4
    clear k0 k7 k6
    by_cases x0 : x = 0
    · subst x0
      have hg : planB t sp ss = true ∧ 1 ≤ (4 : Int) ∧ (4 : Int) ≤ 6 ∧ ((4 : Int) < 4 → n = 0) ∧ ((4 : Int) < 6 → (0 : Int) = 0) := ⟨hp, by decide, by decide, fun h => by omega, fun h => rfl⟩
      have out : n < 0 ∨ t ≤ n → atE t sp ss 4 n 0 = 4 ∧ atV t sp ss 4 n 0 = 0 := fun h => at_out hg (by rw [if_neg (by decide)]; omega)
      by_cases n0 : n < 0
      · obtain ⟨e2, e3⟩ := out (by omega)
        rw [e2, e3]
        clear e2 e3 hp hg out
        go_enter Tryd.func23, Tryd.ntmps23
        go_wp2_with (first | (go_at_call 15; go_in) | (go_at_call 16; go_in) | (go_at_call 17; go_in))
        go_ret2
        exact ⟨rfl, by (repeat (first | exact Below.refl _ _ | (with_reducible assumption) | refine Below.drew ?_ | refine Below.drewN' ?_ _ | refine Below.alloc ?_ (by first | omega | (simp; done) | (simp; omega)) _ | refine Below.setCell ?_ (by first | omega | (simp; done) | (simp; omega)) _ | refine Below.then ?_ hb9 (by first | omega | (simp; done) | (simp; omega)) | refine Below.then ?_ hb8 (by first | omega | (simp; done) | (simp; omega)) | refine Below.then ?_ hb7 (by first | omega | (simp; done) | (simp; omega)) | refine Below.then ?_ hb6 (by first | omega | (simp; done) | (simp; omega)) | refine Below.then ?_ hb5 (by first | omega | (simp; done) | (simp; omega)) | refine Below.then ?_ hb4 (by first | omega | (simp; done) | (simp; omega)) | refine Below.then ?_ hb3 (by first | omega | (simp; done) | (simp; omega)) | refine Below.then ?_ hb2 (by first | omega | (simp; done) | (simp; omega)) | refine Below.then ?_ hb1 (by first | omega | (simp; done) | (simp; omega))))⟩
      by_cases n1 : t ≤ n
      · obtain ⟨e2, e3⟩ := out (by omega)
        rw [e2, e3]
        clear e2 e3 hp hg out
        go_enter Tryd.func23, Tryd.ntmps23
        go_wp2_with (first | (go_at_call 15; go_in) | (go_at_call 16; go_in) | (go_at_call 17; go_in))
        go_ret2
        exact ⟨rfl, by (repeat (first | exact Below.refl _ _ | (with_reducible assumption) | refine Below.drew ?_ | refine Below.drewN' ?_ _ | refine Below.alloc ?_ (by first | omega | (simp; done) | (simp; omega)) _ | refine Below.setCell ?_ (by first | omega | (simp; done) | (simp; omega)) _ | refine Below.then ?_ hb9 (by first | omega | (simp; done) | (simp; omega)) | refine Below.then ?_ hb8 (by first | omega | (simp; done) | (simp; omega)) | refine Below.then ?_ hb7 (by first | omega | (simp; done) | (simp; omega)) | refine Below.then ?_ hb6 (by first | omega | (simp; done) | (simp; omega)) | refine Below.then ?_ hb5 (by first | omega | (simp; done) | (simp; omega)) | refine Below.then ?_ hb4 (by first | omega | (simp; done) | (simp; omega)) | refine Below.then ?_ hb3 (by first | omega | (simp; done) | (simp; omega)) | refine Below.then ?_ hb2 (by first | omega | (simp; done) | (simp; omega)) | refine Below.then ?_ hb1 (by first | omega | (simp; done) | (simp; omega))))⟩
      obtain ⟨e2, e3⟩ := at_in hg (by rw [if_neg (by decide)]; omega)
      rw [show atV t sp ss 4 n 0 = 3 + n from e3, e2]
      clear e2 e3 hp hg out
      go_enter Tryd.func23, Tryd.ntmps23
      go_wp2_with (first | (go_at_call 15; go_in) | (go_at_call 16; go_in) | (go_at_call 17; go_in))
      go_ret2
      exact ⟨rfl, by (repeat (first | exact Below.refl _ _ | (with_reducible assumption) | refine Below.drew ?_ | refine Below.drewN' ?_ _ | refine Below.alloc ?_ (by first | omega | (simp; done) | (simp; omega)) _ | refine Below.setCell ?_ (by first | omega | (simp; done) | (simp; omega)) _ | refine Below.then ?_ hb9 (by first | omega | (simp; done) | (simp; omega)) | refine Below.then ?_ hb8 (by first | omega | (simp; done) | (simp; omega)) | refine Below.then ?_ hb7 (by first | omega | (simp; done) | (simp; omega)) | refine Below.then ?_ hb6 (by first | omega | (simp; done) | (simp; omega)) | refine Below.then ?_ hb5 (by first | omega | (simp; done) | (simp; omega)) | refine Below.then ?_ hb4 (by first | omega | (simp; done) | (simp; omega)) | refine Below.then ?_ hb3 (by first | omega | (simp; done) | (simp; omega)) | refine Below.then ?_ hb2 (by first | omega | (simp; done) | (simp; omega)) | refine Below.then ?_ hb1 (by first | omega | (simp; done) | (simp; omega))))⟩
    · obtain ⟨e2, e3⟩ := at_refused (t := t) (sp := sp) (ss := ss) (k := 4) (n := n) (x := x) (by omega)
      rw [e2, e3]
      have x2 : (x == 0) = false := by rw [beq_eq_false_iff_ne]; omega
      clear e2 e3 hp
      go_enter Tryd.func23, Tryd.ntmps23
      go_wp2_with (first | (go_at_call 15; go_in) | (go_at_call 16; go_in) | (go_at_call 17; go_in))
      go_ret2
      exact ⟨rfl, by (repeat (first | exact Below.refl _ _ | (with_reducible assumption) | refine Below.drew ?_ | refine Below.drewN' ?_ _ | refine Below.alloc ?_ (by first | omega | (simp; done) | (simp; omega)) _ | refine Below.setCell ?_ (by first | omega | (simp; done) | (simp; omega)) _ | refine Below.then ?_ hb9 (by first | omega | (simp; done) | (simp; omega)) | refine Below.then ?_ hb8 (by first | omega | (simp; done) | (simp; omega)) | refine Below.then ?_ hb7 (by first | omega | (simp; done) | (simp; omega)) | refine Below.then ?_ hb6 (by first | omega | (simp; done) | (simp; omega)) | refine Below.then ?_ hb5 (by first | omega | (simp; done) | (simp; omega)) | refine Below.then ?_ hb4 (by first | omega | (simp; done) | (simp; omega)) | refine Below.then ?_ hb3 (by first | omega | (simp; done) | (simp; omega)) | refine Below.then ?_ hb2 (by first | omega | (simp; done) | (simp; omega)) | refine Below.then ?_ hb1 (by first | omega | (simp; done) | (simp; omega))))⟩
  by_cases k5 : k = 5
  · subst k5
    clear k0 k7 k6 k4
    by_cases x0 : x = 0
    · subst x0
      have hg : planB t sp ss = true ∧ 1 ≤ (5 : Int) ∧ (5 : Int) ≤ 6 ∧ ((5 : Int) < 4 → n = 0) ∧ ((5 : Int) < 6 → (0 : Int) = 0) := ⟨hp, by decide, by decide, fun h => by omega, fun h => rfl⟩
      have out : n < 0 ∨ t ≤ n → atE t sp ss 5 n 0 = 4 ∧ atV t sp ss 5 n 0 = 0 := fun h => at_out hg (by rw [if_neg (by decide)]; omega)
      by_cases n0 : n < 0
      · obtain ⟨e2, e3⟩ := out (by omega)
        rw [e2, e3]
        clear e2 e3 hp hg out
        go_enter Tryd.func23, Tryd.ntmps23
        go_wp2_with (first | (go_at_call 15; go_in) | (go_at_call 16; go_in) | (go_at_call 17; go_in))
        go_ret2
        exact ⟨rfl, by (repeat (first | exact Below.refl _ _ | (with_reducible assumption) | refine Below.drew ?_ | refine Below.drewN' ?_ _ | refine Below.alloc ?_ (by first | omega | (simp; done) | (simp; omega)) _ | refine Below.setCell ?_ (by first | omega | (simp; done) | (simp; omega)) _ | refine Below.then ?_ hb9 (by first | omega | (simp; done) | (simp; omega)) | refine Below.then ?_ hb8 (by first | omega | (simp; done) | (simp; omega)) | refine Below.then ?_ hb7 (by first | omega | (simp; done) | (simp; omega)) | refine Below.then ?_ hb6 (by first | omega | (simp; done) | (simp; omega)) | refine Below.then ?_ hb5 (by first | omega | (simp; done) | (simp; omega)) | refine Below.then ?_ hb4 (by first | omega | (simp; done) | (simp; omega)) | refine Below.then ?_ hb3 (by first | omega | (simp; done) | (simp; omega)) | refine Below.then ?_ hb2 (by first | omega | (simp; done) | (simp; omega)) | refine Below.then ?_ hb1 (by first | omega | (simp; done) | (simp; omega))))⟩
      by_cases n1 : t ≤ n
      · obtain ⟨e2, e3⟩ := out (by omega)
        rw [e2, e3]
        clear e2 e3 hp hg out
        go_enter Tryd.func23, Tryd.ntmps23
        go_wp2_with (first | (go_at_call 15; go_in) | (go_at_call 16; go_in) | (go_at_call 17; go_in))
        go_ret2
        exact ⟨rfl, by (repeat (first | exact Below.refl _ _ | (with_reducible assumption) | refine Below.drew ?_ | refine Below.drewN' ?_ _ | refine Below.alloc ?_ (by first | omega | (simp; done) | (simp; omega)) _ | refine Below.setCell ?_ (by first | omega | (simp; done) | (simp; omega)) _ | refine Below.then ?_ hb9 (by first | omega | (simp; done) | (simp; omega)) | refine Below.then ?_ hb8 (by first | omega | (simp; done) | (simp; omega)) | refine Below.then ?_ hb7 (by first | omega | (simp; done) | (simp; omega)) | refine Below.then ?_ hb6 (by first | omega | (simp; done) | (simp; omega)) | refine Below.then ?_ hb5 (by first | omega | (simp; done) | (simp; omega)) | refine Below.then ?_ hb4 (by first | omega | (simp; done) | (simp; omega)) | refine Below.then ?_ hb3 (by first | omega | (simp; done) | (simp; omega)) | refine Below.then ?_ hb2 (by first | omega | (simp; done) | (simp; omega)) | refine Below.then ?_ hb1 (by first | omega | (simp; done) | (simp; omega))))⟩
      obtain ⟨e2, e3⟩ := at_in hg (by rw [if_neg (by decide)]; omega)
      rw [show atV t sp ss 5 n 0 = 3 + t + n from e3, e2]
      clear e2 e3 hp hg out
      go_enter Tryd.func23, Tryd.ntmps23
      go_wp2_with (first | (go_at_call 15; go_in) | (go_at_call 16; go_in) | (go_at_call 17; go_in))
      go_ret2
      exact ⟨rfl, by (repeat (first | exact Below.refl _ _ | (with_reducible assumption) | refine Below.drew ?_ | refine Below.drewN' ?_ _ | refine Below.alloc ?_ (by first | omega | (simp; done) | (simp; omega)) _ | refine Below.setCell ?_ (by first | omega | (simp; done) | (simp; omega)) _ | refine Below.then ?_ hb9 (by first | omega | (simp; done) | (simp; omega)) | refine Below.then ?_ hb8 (by first | omega | (simp; done) | (simp; omega)) | refine Below.then ?_ hb7 (by first | omega | (simp; done) | (simp; omega)) | refine Below.then ?_ hb6 (by first | omega | (simp; done) | (simp; omega)) | refine Below.then ?_ hb5 (by first | omega | (simp; done) | (simp; omega)) | refine Below.then ?_ hb4 (by first | omega | (simp; done) | (simp; omega)) | refine Below.then ?_ hb3 (by first | omega | (simp; done) | (simp; omega)) | refine Below.then ?_ hb2 (by first | omega | (simp; done) | (simp; omega)) | refine Below.then ?_ hb1 (by first | omega | (simp; done) | (simp; omega))))⟩
    · obtain ⟨e2, e3⟩ := at_refused (t := t) (sp := sp) (ss := ss) (k := 5) (n := n) (x := x) (by omega)
      rw [e2, e3]
      have x2 : (x == 0) = false := by rw [beq_eq_false_iff_ne]; omega
      clear e2 e3 hp
      go_enter Tryd.func23, Tryd.ntmps23
      go_wp2_with (first | (go_at_call 15; go_in) | (go_at_call 16; go_in) | (go_at_call 17; go_in))
      go_ret2
      exact ⟨rfl, by (repeat (first | exact Below.refl _ _ | (with_reducible assumption) | refine Below.drew ?_ | refine Below.drewN' ?_ _ | refine Below.alloc ?_ (by first | omega | (simp; done) | (simp; omega)) _ | refine Below.setCell ?_ (by first | omega | (simp; done) | (simp; omega)) _ | refine Below.then ?_ hb9 (by first | omega | (simp; done) | (simp; omega)) | refine Below.then ?_ hb8 (by first | omega | (simp; done) | (simp; omega)) | refine Below.then ?_ hb7 (by first | omega | (simp; done) | (simp; omega)) | refine Below.then ?_ hb6 (by first | omega | (simp; done) | (simp; omega)) | refine Below.then ?_ hb5 (by first | omega | (simp; done) | (simp; omega)) | refine Below.then ?_ hb4 (by first | omega | (simp; done) | (simp; omega)) | refine Below.then ?_ hb3 (by first | omega | (simp; done) | (simp; omega)) | refine Below.then ?_ hb2 (by first | omega | (simp; done) | (simp; omega)) | refine Below.then ?_ hb1 (by first | omega | (simp; done) | (simp; omega))))⟩
  have kb : 1 ≤ k ∧ k ≤ 3 := by omega
  have k60 : (k == 6) = false := by rw [beq_eq_false_iff_ne]; omega
  have k40 : (k == 4) = false := by rw [beq_eq_false_iff_ne]; omega
  have k50 : (k == 5) = false := by rw [beq_eq_false_iff_ne]; omega
  by_cases n0 : n = 0
  · subst n0
    by_cases x0 : x = 0
    · subst x0
      obtain ⟨e2, e3⟩ := at_in (t := t) (sp := sp) (ss := ss) (k := k) (n := 0) (x := 0) ⟨hp, by omega, by omega, fun h => rfl, fun h => rfl⟩ (by omega)
      rw [if_pos (by omega)] at e3
      rw [e2, e3]
      clear e2 e3 hp
      go_enter Tryd.func23, Tryd.ntmps23
      go_wp2_with (first | (go_at_call 15; go_in) | (go_at_call 16; go_in) | (go_at_call 17; go_in))
      go_ret2
      exact ⟨rfl, by (repeat (first | exact Below.refl _ _ | (with_reducible assumption) | refine Below.drew ?_ | refine Below.drewN' ?_ _ | refine Below.alloc ?_ (by first | omega | (simp; done) | (simp; omega)) _ | refine Below.setCell ?_ (by first | omega | (simp; done) | (simp; omega)) _ | refine Below.then ?_ hb9 (by first | omega | (simp; done) | (simp; omega)) | refine Below.then ?_ hb8 (by first | omega | (simp; done) | (simp; omega)) | refine Below.then ?_ hb7 (by first | omega | (simp; done) | (simp; omega)) | refine Below.then ?_ hb6 (by first | omega | (simp; done) | (simp; omega)) | refine Below.then ?_ hb5 (by first | omega | (simp; done) | (simp; omega)) | refine Below.then ?_ hb4 (by first | omega | (simp; done) | (simp; omega)) | refine Below.then ?_ hb3 (by first | omega | (simp; done) | (simp; omega)) | refine Below.then ?_ hb2 (by first | omega | (simp; done) | (simp; omega)) | refine Below.then ?_ hb1 (by first | omega | (simp; done) | (simp; omega))))⟩
    · obtain ⟨e2, e3⟩ := at_refused (t := t) (sp := sp) (ss := ss) (k := k) (n := 0) (x := x) (by omega)
      rw [e2, e3]
      have x2 : (x == 0) = false := by rw [beq_eq_false_iff_ne]; omega
      clear e2 e3 hp
      go_enter Tryd.func23, Tryd.ntmps23
      go_wp2_with (first | (go_at_call 15; go_in) | (go_at_call 16; go_in) | (go_at_call 17; go_in))
      go_ret2
      exact ⟨rfl, by (repeat (first | exact Below.refl _ _ | (with_reducible assumption) | refine Below.drew ?_ | refine Below.drewN' ?_ _ | refine Below.alloc ?_ (by first | omega | (simp; done) | (simp; omega)) _ | refine Below.setCell ?_ (by first | omega | (simp; done) | (simp; omega)) _ | refine Below.then ?_ hb9 (by first | omega | (simp; done) | (simp; omega)) | refine Below.then ?_ hb8 (by first | omega | (simp; done) | (simp; omega)) | refine Below.then ?_ hb7 (by first | omega | (simp; done) | (simp; omega)) | refine Below.then ?_ hb6 (by first | omega | (simp; done) | (simp; omega)) | refine Below.then ?_ hb5 (by first | omega | (simp; done) | (simp; omega)) | refine Below.then ?_ hb4 (by first | omega | (simp; done) | (simp; omega)) | refine Below.then ?_ hb3 (by first | omega | (simp; done) | (simp; omega)) | refine Below.then ?_ hb2 (by first | omega | (simp; done) | (simp; omega)) | refine Below.then ?_ hb1 (by first | omega | (simp; done) | (simp; omega))))⟩
  · obtain ⟨e2, e3⟩ := at_refused (t := t) (sp := sp) (ss := ss) (k := k) (n := n) (x := x) (by omega)
    rw [e2, e3]
    have n2 : (n == 0) = false := by rw [beq_eq_false_iff_ne]; omega
    clear e2 e3 hp
    go_enter Tryd.func23, Tryd.ntmps23
    go_wp2_with (first | (go_at_call 15; go_in) | (go_at_call 16; go_in) | (go_at_call 17; go_in))
    go_ret2
    exact ⟨rfl, by (repeat (first | exact Below.refl _ _ | (with_reducible assumption) | refine Below.drew ?_ | refine Below.drewN' ?_ _ | refine Below.alloc ?_ (by first | omega | (simp; done) | (simp; omega)) _ | refine Below.setCell ?_ (by first | omega | (simp; done) | (simp; omega)) _ | refine Below.then ?_ hb9 (by first | omega | (simp; done) | (simp; omega)) | refine Below.then ?_ hb8 (by first | omega | (simp; done) | (simp; omega)) | refine Below.then ?_ hb7 (by first | omega | (simp; done) | (simp; omega)) | refine Below.then ?_ hb6 (by first | omega | (simp; done) | (simp; omega)) | refine Below.then ?_ hb5 (by first | omega | (simp; done) | (simp; omega)) | refine Below.then ?_ hb4 (by first | omega | (simp; done) | (simp; omega)) | refine Below.then ?_ hb3 (by first | omega | (simp; done) | (simp; omega)) | refine Below.then ?_ hb2 (by first | omega | (simp; done) | (simp; omega)) | refine Below.then ?_ hb1 (by first | omega | (simp; done) | (simp; omega))))⟩

end Go.Proofs.YtiodkcecpnomcaaDoor
