/- The law of layer 'door': small contracts; a machine that is not there tells nothing. -/
import Derived.Test.YtafenndokmccoaaDoorI
namespace Go.Proofs.Ytafenndokmccoaa
open Go.RowKit
set_option linter.unusedVariables false
set_option linter.unusedSimpArgs false

/-- few enough shapes, each short enough -/
def fewB (ss : List ByteArray) : Bool := decide (ss.length ≤ 20) && ss.all (fun s => decide (s.size ≤ 20))
set_option maxRecDepth 100000 in
set_option maxHeartbeats 1600000 in
theorem few19_calls (t sp : Int) (a : Option Addr) (c : Nat) (ss : List ByteArray) (hn : ss.length ≤ maxLen) (w : World) (h : SlOf w a (strV ss)) :
    Calls Try.prog 35 #[.agg #[.int .i64 t, .int .i64 sp, .slice a ss.length c]] w fun r w' => r = .returned (.bool (fewB ss)) ∧ Below w.heap.size w w' := by
  have HS := Lib.hid h
  unfold maxLen at hn
  clear h
  by_cases h20 : ss.length ≤ 20
  case neg =>
    have g1 : decide ((ss.length : Int) > 20) = true := decide_eq_true (by omega)
    have g2 : (20 : Int) < (ss.length : Int) := by omega
    rw [show fewB ss = false by unfold fewB; rw [decide_eq_false h20]; rfl]
    go_enter Try.func35, Try.ntmps35
    go_wp2
    go_ret
    exact ⟨rfl, by (repeat (first | exact Below.refl _ _ | (with_reducible assumption) | refine Below.drew ?_ | refine Below.drewN' ?_ _ | refine Below.alloc ?_ (by first | omega | (simp; done) | (simp; omega)) _ | refine Below.setCell ?_ (by first | omega | (simp; done) | (simp; omega)) _ | refine Below.then ?_ hb9 (by first | omega | (simp; done) | (simp; omega)) | refine Below.then ?_ hb8 (by first | omega | (simp; done) | (simp; omega)) | refine Below.then ?_ hb7 (by first | omega | (simp; done) | (simp; omega)) | refine Below.then ?_ hb6 (by first | omega | (simp; done) | (simp; omega)) | refine Below.then ?_ hb5 (by first | omega | (simp; done) | (simp; omega)) | refine Below.then ?_ hb4 (by first | omega | (simp; done) | (simp; omega)) | refine Below.then ?_ hb3 (by first | omega | (simp; done) | (simp; omega)) | refine Below.then ?_ hb2 (by first | omega | (simp; done) | (simp; omega)) | refine Below.then ?_ hb1 (by first | omega | (simp; done) | (simp; omega))))⟩
  have g2 : ¬ (20 : Int) < (ss.length : Int) := by omega
  obtain ⟨r, hr⟩ : ∃ r, fewB ss = r := ⟨_, rfl⟩
  rw [hr]
  have HR := Lib.hid hr
  have H20 := Lib.hid h20
  clear hr h20
  go_enter Try.func35, Try.ntmps35
  go_wp2_with fail
  have hA : (w.alloc (.cells #[.int .i64 t, .int .i64 sp, .slice a ss.length c] 24)).cell? ⟨w.heap.size, 2, none⟩ = some (.slice a ss.length c) := by simp [go_sem]
  have hz : (w.alloc (.cells #[.int .i64 t, .int .i64 sp, .slice a ss.length c] 24)).heap.size = w.heap.size + 1 := by simp
  have hb : Below w.heap.size w (w.alloc (.cells #[.int .i64 t, .int .i64 sp, .slice a ss.length c] 24)) := by (repeat (first | exact Below.refl _ _ | (with_reducible assumption) | refine Below.drew ?_ | refine Below.drewN' ?_ _ | refine Below.alloc ?_ (by first | omega | (simp; done) | (simp; omega)) _ | refine Below.setCell ?_ (by first | omega | (simp; done) | (simp; omega)) _ | refine Below.then ?_ hb9 (by first | omega | (simp; done) | (simp; omega)) | refine Below.then ?_ hb8 (by first | omega | (simp; done) | (simp; omega)) | refine Below.then ?_ hb7 (by first | omega | (simp; done) | (simp; omega)) | refine Below.then ?_ hb6 (by first | omega | (simp; done) | (simp; omega)) | refine Below.then ?_ hb5 (by first | omega | (simp; done) | (simp; omega)) | refine Below.then ?_ hb4 (by first | omega | (simp; done) | (simp; omega)) | refine Below.then ?_ hb3 (by first | omega | (simp; done) | (simp; omega)) | refine Below.then ?_ hb2 (by first | omega | (simp; done) | (simp; omega)) | refine Below.then ?_ hb1 (by first | omega | (simp; done) | (simp; omega))))
  generalize w.alloc (.cells #[.int .i64 t, .int .i64 sp, .slice a ss.length c] 24) = w1 at hA hz hb ⊢
  go_loopw [3] (fun iv wr => ∃ k : Nat, k ≤ ss.length ∧ iv = .int .i64 k ∧ Below w1.heap.size w1 wr ∧ Hid (∀ s ∈ ss.take k, s.size ≤ 20)) (fun iv _ => ss.length - (intOf iv).toNat)
  case atStart => exact ⟨0, Nat.zero_le _, rfl, Below.refl _ _, Lib.hid (by simp)⟩
  case round =>
    obtain ⟨k, hk, rfl, hBr, hall⟩ := hrel
    have rA := (hBr.cell (p := ⟨w.heap.size, 2, none⟩) (by show w.heap.size < _; omega)).trans hA
    have hb0r : Below w.heap.size w wr := hb.trans (hBr.mono (by omega))
    have hzr := hBr.size
    by_cases hlt : k < ss.length
    · rcases HS.out.below hb0r with h0 | ⟨b, o, rfl, hbl, hc⟩
      · have := congrArg List.length h0; rw [strV_len, List.length_nil] at this; omega
      have hcx := hc k (by rw [strV_len]; exact hlt)
      rw [strV_get ss k hlt] at hcx
      have i1 : (k : Int) < (ss.length : Int) := by omega
      have i0 : (0 : Int) ≤ (k : Int) := by omega
      clear hc
      by_cases hs : ss[k].size ≤ 20
      · have hall' := Lib.hid (show ∀ s ∈ ss.take (k + 1), s.size ≤ 20 from fun s hs' => by
          rw [List.take_succ_eq_append_getElem hlt] at hs'
          rcases List.mem_append.1 hs' with h | h
          · exact hall.out s h
          · rw [List.mem_singleton.1 h]; exact hs)
        have g3 : ¬ (20 : Int) < (ss[k].size : Int) := by omega
        clear hall hs
        go_wp2
        go_roundw
        case rel => exact ⟨k + 1, by omega, by go_num, hBr, hall'⟩
        case measure => simp [intOf]; omega
      · have g3 : (20 : Int) < (ss[k].size : Int) := by omega
        have hf := Lib.hid (show r = false from by
          rw [← HR.out]
          unfold fewB
          rw [Bool.and_eq_false_iff]
          right
          rw [List.all_eq_false]
          exact ⟨ss[k], List.getElem_mem hlt, by simpa using hs⟩)
        clear hall hs
        go_wp2
        go_ret
        exact ⟨by rw [hf.out]; rfl, hb0r⟩
    · obtain rfl : k = ss.length := by omega
      have hf := Lib.hid (show r = true from by
        rw [← HR.out]
        unfold fewB
        rw [Bool.and_eq_true, List.all_eq_true, decide_eq_true_eq]
        refine ⟨H20.out, fun s hs => ?_⟩
        have := hall.out s (by rw [List.take_length]; exact hs)
        simpa using this)
      clear hall
      go_wp2
      go_ret
      exact ⟨by rw [hf.out]; rfl, hb0r⟩

theorem dCheck_calls (x : ThN) (hx : ThOk x) (t sp : Int) (a : Option Addr) (c : Nat) (ss : List ByteArray) (hn : ss.length ≤ maxLen) (w : World) (h : SlOf w a (strV ss)) :
    Calls Try.prog 37 #[.agg #[.int .i64 t, .int .i64 sp, .slice a ss.length c], thV x] w fun r w' => r = .returned (.int .i64 (if thB x t sp ss = true then 0 else 2)) ∧ Below w.heap.size w w' := by
  have HS := Lib.hid h
  have hR := fun W h => dRight_calls x t sp a c ss hn hx W h
  unfold stA at hR
  unfold thV thA
  cases hb : thB x t sp ss with
  | true =>
    rw [hb] at hR
    have HR := Lib.hid hR
    simp only [if_true]
    clear hR h hb hx
    go_enter Try.func37, Try.ntmps37
    go_wp2_with fail
    refine (HR.out _ ((HS.out.alloc _).alloc _)).mono ?_; rintro e1 w1 ⟨rfl, hb1⟩; have hz1 := hb1.size; (try simp at hz1)
    go_wp2
    go_ret
    exact ⟨rfl, by (repeat (first | exact Below.refl _ _ | (with_reducible assumption) | refine Below.drew ?_ | refine Below.drewN' ?_ _ | refine Below.alloc ?_ (by first | omega | (simp; done) | (simp; omega)) _ | refine Below.setCell ?_ (by first | omega | (simp; done) | (simp; omega)) _ | refine Below.then ?_ hb9 (by first | omega | (simp; done) | (simp; omega)) | refine Below.then ?_ hb8 (by first | omega | (simp; done) | (simp; omega)) | refine Below.then ?_ hb7 (by first | omega | (simp; done) | (simp; omega)) | refine Below.then ?_ hb6 (by first | omega | (simp; done) | (simp; omega)) | refine Below.then ?_ hb5 (by first | omega | (simp; done) | (simp; omega)) | refine Below.then ?_ hb4 (by first | omega | (simp; done) | (simp; omega)) | refine Below.then ?_ hb3 (by first | omega | (simp; done) | (simp; omega)) | refine Below.then ?_ hb2 (by first | omega | (simp; done) | (simp; omega)) | refine Below.then ?_ hb1 (by first | omega | (simp; done) | (simp; omega))))⟩
  | false =>
    rw [hb] at hR
    have HR := Lib.hid hR
    simp only [Bool.false_eq_true, if_false]
    clear hR h hb hx
    go_enter Try.func37, Try.ntmps37
    go_wp2_with fail
    refine (HR.out _ ((HS.out.alloc _).alloc _)).mono ?_; rintro e1 w1 ⟨rfl, hb1⟩; have hz1 := hb1.size; (try simp at hz1)
    go_wp2
    go_ret
    exact ⟨rfl, by (repeat (first | exact Below.refl _ _ | (with_reducible assumption) | refine Below.drew ?_ | refine Below.drewN' ?_ _ | refine Below.alloc ?_ (by first | omega | (simp; done) | (simp; omega)) _ | refine Below.setCell ?_ (by first | omega | (simp; done) | (simp; omega)) _ | refine Below.then ?_ hb9 (by first | omega | (simp; done) | (simp; omega)) | refine Below.then ?_ hb8 (by first | omega | (simp; done) | (simp; omega)) | refine Below.then ?_ hb7 (by first | omega | (simp; done) | (simp; omega)) | refine Below.then ?_ hb6 (by first | omega | (simp; done) | (simp; omega)) | refine Below.then ?_ hb5 (by first | omega | (simp; done) | (simp; omega)) | refine Below.then ?_ hb4 (by first | omega | (simp; done) | (simp; omega)) | refine Below.then ?_ hb3 (by first | omega | (simp; done) | (simp; omega)) | refine Below.then ?_ hb2 (by first | omega | (simp; done) | (simp; omega)) | refine Below.then ?_ hb1 (by first | omega | (simp; done) | (simp; omega))))⟩

set_option maxRecDepth 100000 in
set_option maxHeartbeats 3200000 in
theorem doorNil_walk (w : World) (v : Int) (_wv : (Lit.int .u64 v).wf = true) :
    Calls Try.prog 8 #[.int .u64 v] w fun e w' => e = .returned (.bool true) ∧ Below w.heap.size w w' := by
  have HN := Lib.hid (fun W => dNext_nil W v)
  have HO := Lib.hid dOut_nil
  have HC := Lib.hid dCopy_nil
  have HW := Lib.hid works19_calls
  have HU := Lib.hid num19_calls
  unfold accA at HN
  go_enter Try.func8, Try.ntmps8
  go_wp2_with fail
  have Z0 : (w.alloc (.cells #[.int .i64 0, .int .i64 0, .int .i64 0, .int .i64 0, .int .i64 0, .int .i64 0, .int .i64 0, .int .u64 0, .int .u64 0, .int .u64 0, .int .u64 0, .int .u64 0, .int .u64 0, .int .i64 0, .int .i64 0, .slice none 0 0, .int .i64 0, .int .i64 0, .int .i64 0, .int .i64 0, .int .i64 0, .int .i64 0, .int .i64 0, .int .i64 0, .nilFunc, .bool false, .int .i64 0, .int .i64 0, .int .i64 0] 105)).heap[w.heap.size]? = some (.cells #[.int .i64 0, .int .i64 0, .int .i64 0, .int .i64 0, .int .i64 0, .int .i64 0, .int .i64 0, .int .u64 0, .int .u64 0, .int .u64 0, .int .u64 0, .int .u64 0, .int .u64 0, .int .i64 0, .int .i64 0, .slice none 0 0, .int .i64 0, .int .i64 0, .int .i64 0, .int .i64 0, .int .i64 0, .int .i64 0, .int .i64 0, .int .i64 0, .nilFunc, .bool false, .int .i64 0, .int .i64 0, .int .i64 0] 105 (0, 0)) := (MapKept.heap_alloc w _).1
  have hb0 : Below w.heap.size w (w.alloc (.cells #[.int .i64 0, .int .i64 0, .int .i64 0, .int .i64 0, .int .i64 0, .int .i64 0, .int .i64 0, .int .u64 0, .int .u64 0, .int .u64 0, .int .u64 0, .int .u64 0, .int .u64 0, .int .i64 0, .int .i64 0, .slice none 0 0, .int .i64 0, .int .i64 0, .int .i64 0, .int .i64 0, .int .i64 0, .int .i64 0, .int .i64 0, .int .i64 0, .nilFunc, .bool false, .int .i64 0, .int .i64 0, .int .i64 0] 105)) := by (repeat (first | exact Below.refl _ _ | (with_reducible assumption) | refine Below.drew ?_ | refine Below.drewN' ?_ _ | refine Below.alloc ?_ (by first | omega | (simp; done) | (simp; omega)) _ | refine Below.setCell ?_ (by first | omega | (simp; done) | (simp; omega)) _ | refine Below.then ?_ hb9 (by first | omega | (simp; done) | (simp; omega)) | refine Below.then ?_ hb8 (by first | omega | (simp; done) | (simp; omega)) | refine Below.then ?_ hb7 (by first | omega | (simp; done) | (simp; omega)) | refine Below.then ?_ hb6 (by first | omega | (simp; done) | (simp; omega)) | refine Below.then ?_ hb5 (by first | omega | (simp; done) | (simp; omega)) | refine Below.then ?_ hb4 (by first | omega | (simp; done) | (simp; omega)) | refine Below.then ?_ hb3 (by first | omega | (simp; done) | (simp; omega)) | refine Below.then ?_ hb2 (by first | omega | (simp; done) | (simp; omega)) | refine Below.then ?_ hb1 (by first | omega | (simp; done) | (simp; omega))))
  generalize w.alloc (.cells #[.int .i64 0, .int .i64 0, .int .i64 0, .int .i64 0, .int .i64 0, .int .i64 0, .int .i64 0, .int .u64 0, .int .u64 0, .int .u64 0, .int .u64 0, .int .u64 0, .int .u64 0, .int .i64 0, .int .i64 0, .slice none 0 0, .int .i64 0, .int .i64 0, .int .i64 0, .int .i64 0, .int .i64 0, .int .i64 0, .int .i64 0, .int .i64 0, .nilFunc, .bool false, .int .i64 0, .int .i64 0, .int .i64 0] 105) = W0 at Z0 hb0 ⊢
  obtain ⟨ZB, hZB⟩ : ∃ ZB, w.heap.size = ZB := ⟨_, rfl⟩
  rw [hZB] at Z0 ⊢
  clear hZB
  refine (HN.out _).mono ?_
  rintro r w1 ⟨rfl, hb1'⟩
  go_wp2_with fail
  have Bx : (w1.alloc (.cells #[.int .i64 0, .int .i64 0, .int .u64 0, .int .u64 0] 44)).heap[w1.heap.size]? = some (.cells #[.int .i64 0, .int .i64 0, .int .u64 0, .int .u64 0] 44 (0, 0)) := (MapKept.heap_alloc w1 _).1
  have hc1 := hb1'.alloc hb1'.size (.cells #[.int .i64 0, .int .i64 0, .int .u64 0, .int .u64 0] 44)
  have Z1 := blk_below Z0 hc1
  have hb1 := Below.then hb0 hc1 hb0.size
  generalize w1.alloc (.cells #[.int .i64 0, .int .i64 0, .int .u64 0, .int .u64 0] 44) = W1 at *
  generalize w1.heap.size = Xx at *
  have hI := dNext_idle ZB _ _ v rfl Z1
  unfold accA at hI
  refine hI.mono ?_
  rintro r w2 ⟨rfl, hb2'⟩
  go_wp2_with fail
  have By : (w2.alloc (.cells #[.int .i64 0, .int .i64 0, .int .u64 0, .int .u64 0] 44)).heap[w2.heap.size]? = some (.cells #[.int .i64 0, .int .i64 0, .int .u64 0, .int .u64 0] 44 (0, 0)) := (MapKept.heap_alloc w2 _).1
  have hc2 := hb2'.alloc hb2'.size (.cells #[.int .i64 0, .int .i64 0, .int .u64 0, .int .u64 0] 44)
  have Z2 := blk_below Z1 hc2
  have hb2 := Below.then hb1 hc2 hb1.size
  replace Bx := blk_below Bx hc2
  generalize w2.alloc (.cells #[.int .i64 0, .int .i64 0, .int .u64 0, .int .u64 0] 44) = W2 at *
  generalize w2.heap.size = Xy at *
  refine (HO.out _).mono ?_
  rintro r w3 ⟨rfl, hb3'⟩
  go_wp2_with fail
  have Bo : (w3.alloc (.cells #[.int .i64 0, .int .i64 0, .int .i64 0] 96)).heap[w3.heap.size]? = some (.cells #[.int .i64 0, .int .i64 0, .int .i64 0] 96 (0, 0)) := (MapKept.heap_alloc w3 _).1
  have hc3 := hb3'.alloc hb3'.size (.cells #[.int .i64 0, .int .i64 0, .int .i64 0] 96)
  have Z3 := blk_below Z2 hc3
  have hb3 := Below.then hb2 hc3 hb2.size
  replace Bx := blk_below Bx hc3
  replace By := blk_below By hc3
  generalize w3.alloc (.cells #[.int .i64 0, .int .i64 0, .int .i64 0] 96) = W3 at *
  generalize w3.heap.size = Xo at *
  refine ((dOut_calls ZB _ 0 0 0 false _ rfl rfl rfl rfl Z3)).mono ?_
  rintro r w4 ⟨rfl, hb4'⟩
  have Bx := blk_below Bx hb4'
  have By := blk_below By hb4'
  have Bo := blk_below Bo hb4'
  have hb4 := Below.then hb3 hb4' hb3.size
  have x0 : w4.cell? ⟨Xx, 0, none⟩ = some (.int .i64 0) := blk_cell Bx 0 _ rfl
  have x1 : w4.cell? ⟨Xx, 1, none⟩ = some (.int .i64 0) := blk_cell Bx 1 _ rfl
  have x2 : w4.cell? ⟨Xx, 2, none⟩ = some (.int .u64 0) := blk_cell Bx 2 _ rfl
  have x3 : w4.cell? ⟨Xx, 3, none⟩ = some (.int .u64 0) := blk_cell Bx 3 _ rfl
  have lx := blk_lt Bx
  have y0 : w4.cell? ⟨Xy, 0, none⟩ = some (.int .i64 0) := blk_cell By 0 _ rfl
  have y1 : w4.cell? ⟨Xy, 1, none⟩ = some (.int .i64 0) := blk_cell By 1 _ rfl
  have y2 : w4.cell? ⟨Xy, 2, none⟩ = some (.int .u64 0) := blk_cell By 2 _ rfl
  have y3 : w4.cell? ⟨Xy, 3, none⟩ = some (.int .u64 0) := blk_cell By 3 _ rfl
  have ly := blk_lt By
  have o0 : w4.cell? ⟨Xo, 0, none⟩ = some (.int .i64 0) := blk_cell Bo 0 _ rfl
  have o1 : w4.cell? ⟨Xo, 1, none⟩ = some (.int .i64 0) := blk_cell Bo 1 _ rfl
  have o2 : w4.cell? ⟨Xo, 2, none⟩ = some (.int .i64 0) := blk_cell Bo 2 _ rfl
  have lo := blk_lt Bo
  have hz4 := hb4.size
  clear Bx By Bo hb4'
  go_wp2_with (first | (go_at_call 36; go_in) | (go_at_call 42; refine (HC.out _).mono ?_; rintro r w5 ⟨rfl, hb5⟩; have hz5 := hb5.size; (try simp at hz5)) | (go_at_call 38; refine (HW.out _).mono ?_; rintro r w6 ⟨rfl, hb6⟩; have hz6 := hb6.size; (try simp at hz6)))
  go_ret
  exact ⟨rfl, by (repeat (first | exact Below.refl _ _ | (with_reducible assumption) | refine Below.drew ?_ | refine Below.drewN' ?_ _ | refine Below.alloc ?_ (by first | omega | (simp; done) | (simp; omega)) _ | refine Below.setCell ?_ (by first | omega | (simp; done) | (simp; omega)) _ | refine Below.then ?_ hb9 (by first | omega | (simp; done) | (simp; omega)) | refine Below.then ?_ hb8 (by first | omega | (simp; done) | (simp; omega)) | refine Below.then ?_ hb7 (by first | omega | (simp; done) | (simp; omega)) | refine Below.then ?_ hb6 (by first | omega | (simp; done) | (simp; omega)) | refine Below.then ?_ hb5 (by first | omega | (simp; done) | (simp; omega)) | refine Below.then ?_ hb4 (by first | omega | (simp; done) | (simp; omega)) | refine Below.then ?_ hb3 (by first | omega | (simp; done) | (simp; omega)) | refine Below.then ?_ hb2 (by first | omega | (simp; done) | (simp; omega)) | refine Below.then ?_ hb1 (by first | omega | (simp; done) | (simp; omega))))⟩
end Go.Proofs.Ytafenndokmccoaa
