/- The statements of layer 'shape': what they share. -/
import Derived.Test.YtcdfhceohjhogaaDoorShapeRef2
import Derived.Test.YtcdfhceohjhogaaDoorMost
namespace Go.Proofs.YtcdfhceohjhogaaDoor
open Go.RowKit
set_option linter.unusedVariables false
set_option linter.unusedSimpArgs false

def smallTab : List ByteArray := [⟨#[112, 115]⟩, ⟨#[]⟩]

theorem tab_facts : ofE smallTab 0 = 0 ∧ ofE smallTab 1 = 0 ∧ ofE smallTab 2 = 130 ∧ sizeN smallTab 0 = 4 ∧ sizeN smallTab 1 = 2 ∧ sizeN smallTab 2 = 0 ∧ kindE smallTab 0 1 = 0 ∧ kindK smallTab 0 1 = 1 ∧ isE smallTab 0 1 0 = 132 ∧ checkE smallTab = 0 := by decide +kernel
theorem tab_text : textS smallTab = ⟨#[112, 115, 32, 45]⟩ := by
  unfold textS
  rw [show tableB smallTab = true from by decide +kernel, if_pos rfl]
  rfl
theorem px_read : readB ⟨#[112, 120]⟩ = false := by decide +kernel

set_option maxRecDepth 100000 in
set_option maxHeartbeats 3200000 in
theorem works03_calls (w : World) :
    Calls Tryd.prog 31 #[] w fun e w' => e = .returned (.bool true) ∧ Below w.heap.size w w' := by
  obtain ⟨t1, t2, t3, t4, t5, t6, t7, t8, t9, t10⟩ := tab_facts
  have hl : smallTab.length ≤ maxLen := by decide
  have H1 := fun a c w h => shSize_calls a c smallTab 0 hl w h
  have H2 := fun a c w h => shSize_calls a c smallTab 1 hl w h
  have H3 := fun a c w h => shSize_calls a c smallTab 2 hl w h
  have H4 := fun a c w h => kind_calls a c smallTab 0 1 hl w h
  have H5 := fun a c w h => is_calls a c smallTab 0 1 0 hl w h
  have H6 := fun a c w h => text_calls a c smallTab hl w h
  have H7 := fun w => read_calls ⟨#[112, 120]⟩ (by decide) w
  rw [t1, t4] at H1
  rw [t2, t5] at H2
  rw [t3, t6] at H3
  rw [t7, t8] at H4
  rw [t9] at H5
  rw [tab_text, t10] at H6
  rw [show readL ⟨#[112, 120]⟩ = [] from by unfold readL; rw [px_read]; rfl, show readE ⟨#[112, 120]⟩ = 2 from by unfold readE; rw [px_read]; rfl] at H7
  rw [show smallTab.length = 2 from rfl] at H1 H2 H3 H4 H5 H6
  have H1 := Lib.hid H1
  have H2 := Lib.hid H2
  have H3 := Lib.hid H3
  have H4 := Lib.hid H4
  have H5 := Lib.hid H5
  have H6 := Lib.hid H6
  have H7 := Lib.hid H7
  clear t1 t2 t3 t4 t5 t6 t7 t8 t9 t10 hl
  go_enter Tryd.func31, Tryd.ntmps31
  go_wp2_with fail
  refine (H1.out _ _ _ (by exact SlOf.new _ (strV smallTab) _ _)).mono ?_; rintro e1 w1 ⟨rfl, hb1⟩; have hz1 := hb1.size; (try simp at hz1)
  have hS1 := Lib.hid (SlOf.below (SlOf.new w (strV smallTab) 45 (0, 0)) hb1)
  go_wp2_with fail
  refine (H2.out _ _ _ hS1.out).mono ?_; rintro e2 w2 ⟨rfl, hb2⟩; have hz2 := hb2.size; (try simp at hz2)
  have hS2 := Lib.hid (hS1.out.below hb2)
  go_wp2_with fail
  refine (H3.out _ _ _ hS2.out).mono ?_; rintro e3 w3 ⟨rfl, hb3⟩; have hz3 := hb3.size; (try simp at hz3)
  have hS3 := Lib.hid (hS2.out.below hb3)
  go_wp2_with fail
  refine (H4.out _ _ _ hS3.out).mono ?_; rintro e4 w4 ⟨rfl, hb4⟩; have hz4 := hb4.size; (try simp at hz4)
  have hS4 := Lib.hid (hS3.out.below hb4)
  go_wp2_with fail
  refine (H5.out _ _ _ hS4.out).mono ?_; rintro e5 w5 ⟨rfl, hb5⟩; have hz5 := hb5.size; (try simp at hz5)
  have hS5 := Lib.hid (hS4.out.below hb5)
  go_wp2_with fail
  refine (H6.out _ _ _ hS5.out).mono ?_; rintro e6 w6 ⟨rfl, hb6⟩; have hz6 := hb6.size; (try simp at hz6)
  go_wp2_with fail
  refine (H7.out _).mono ?_
  rintro e7 w7 ⟨a7, c7, rfl, _, hb7⟩
  go_wp2
  go_ret
  exact ⟨rfl, by (repeat (first | exact Below.refl _ _ | (with_reducible assumption) | refine Below.drew ?_ | refine Below.drewN' ?_ _ | refine Below.alloc ?_ (by first | omega | (simp; done) | (simp; omega)) _ | refine Below.setCell ?_ (by first | omega | (simp; done) | (simp; omega)) _ | refine Below.then ?_ hb9 (by first | omega | (simp; done) | (simp; omega)) | refine Below.then ?_ hb8 (by first | omega | (simp; done) | (simp; omega)) | refine Below.then ?_ hb7 (by first | omega | (simp; done) | (simp; omega)) | refine Below.then ?_ hb6 (by first | omega | (simp; done) | (simp; omega)) | refine Below.then ?_ hb5 (by first | omega | (simp; done) | (simp; omega)) | refine Below.then ?_ hb4 (by first | omega | (simp; done) | (simp; omega)) | refine Below.then ?_ hb3 (by first | omega | (simp; done) | (simp; omega)) | refine Below.then ?_ hb2 (by first | omega | (simp; done) | (simp; omega)) | refine Below.then ?_ hb1 (by first | omega | (simp; done) | (simp; omega))))⟩

def vastB (ss : List ByteArray) : Bool := decide (20 < ss.length) || ss.any (fun s => decide (20 < s.size))
theorem vast_no {ss : List ByteArray} (h : vastB ss = false) : ss.length ≤ 20 ∧ ∀ s ∈ ss, s.size ≤ 20 := by
  simp only [vastB, Bool.or_eq_false_iff, decide_eq_false_iff_not, List.any_eq_false, decide_eq_true_eq] at h
  exact ⟨by omega, fun s hs => by have := h.2 s hs; omega⟩

set_option maxHeartbeats 800000 in
theorem vast_calls (a : Option Addr) (c : Nat) (ss : List ByteArray) (hn : Fit ss) (w : World) (h : SlOf w a (strV ss)) :
    Calls Tryd.prog 30 #[.slice a ss.length c] w fun e w' => e = .returned (.bool (vastB ss)) ∧ Below w.heap.size w w' := by
  have HS := Lib.hid h
  clear h
  have HN := Lib.hid hn.2
  have hn := hn.1
  unfold maxLen at hn
  by_cases h2 : 20 < ss.length
  · have e1 : vastB ss = true := by simp [vastB, h2]
    rw [e1]
    clear e1
    go_enter Tryd.func30, Tryd.ntmps30
    go_wp2
    go_ret
    exact ⟨rfl, by (repeat (first | exact Below.refl _ _ | (with_reducible assumption) | refine Below.drew ?_ | refine Below.drewN' ?_ _ | refine Below.alloc ?_ (by first | omega | (simp; done) | (simp; omega)) _ | refine Below.setCell ?_ (by first | omega | (simp; done) | (simp; omega)) _ | refine Below.then ?_ hb9 (by first | omega | (simp; done) | (simp; omega)) | refine Below.then ?_ hb8 (by first | omega | (simp; done) | (simp; omega)) | refine Below.then ?_ hb7 (by first | omega | (simp; done) | (simp; omega)) | refine Below.then ?_ hb6 (by first | omega | (simp; done) | (simp; omega)) | refine Below.then ?_ hb5 (by first | omega | (simp; done) | (simp; omega)) | refine Below.then ?_ hb4 (by first | omega | (simp; done) | (simp; omega)) | refine Below.then ?_ hb3 (by first | omega | (simp; done) | (simp; omega)) | refine Below.then ?_ hb2 (by first | omega | (simp; done) | (simp; omega)) | refine Below.then ?_ hb1 (by first | omega | (simp; done) | (simp; omega))))⟩
  · go_enter Tryd.func30, Tryd.ntmps30
    go_wp2
    go_loopw [3] (fun i wr => ∃ k : Nat, k ≤ ss.length ∧ i = .int .i64 k ∧ Below w.heap.size w wr ∧ Hid (∀ j (h : j < ss.length), j < k → ss[j].size ≤ 20)) (fun i _ => ss.length - (intOf i).toNat)
    case atStart => exact ⟨0, Nat.zero_le _, rfl, by (repeat (first | exact Below.refl _ _ | (with_reducible assumption) | refine Below.drew ?_ | refine Below.drewN' ?_ _ | refine Below.alloc ?_ (by first | omega | (simp; done) | (simp; omega)) _ | refine Below.setCell ?_ (by first | omega | (simp; done) | (simp; omega)) _ | refine Below.then ?_ hb9 (by first | omega | (simp; done) | (simp; omega)) | refine Below.then ?_ hb8 (by first | omega | (simp; done) | (simp; omega)) | refine Below.then ?_ hb7 (by first | omega | (simp; done) | (simp; omega)) | refine Below.then ?_ hb6 (by first | omega | (simp; done) | (simp; omega)) | refine Below.then ?_ hb5 (by first | omega | (simp; done) | (simp; omega)) | refine Below.then ?_ hb4 (by first | omega | (simp; done) | (simp; omega)) | refine Below.then ?_ hb3 (by first | omega | (simp; done) | (simp; omega)) | refine Below.then ?_ hb2 (by first | omega | (simp; done) | (simp; omega)) | refine Below.then ?_ hb1 (by first | omega | (simp; done) | (simp; omega)))), Lib.hid (by intro j h hj; omega)⟩
    case round =>
      obtain ⟨k, hk, rfl, hB, hall⟩ := hrel
      have hzB := hB.size
      by_cases hlt : k < ss.length
      · rcases HS.out.below hB with h0 | ⟨b, o, rfl, hbl, hcell⟩
        · have := congrArg List.length h0; rw [strV_len, List.length_nil] at this; omega
        have hc := hcell k (by rw [strV_len]; exact hlt)
        rw [strV_get ss k hlt] at hc
        clear hcell
        by_cases hs : 20 < ss[k].size
        · have hf : vastB ss = true := by
            simp only [vastB, Bool.or_eq_true, List.any_eq_true, decide_eq_true_eq]
            exact .inr ⟨ss[k], List.getElem_mem hlt, hs⟩
          have HF := Lib.hid hf
          clear hall hf
          go_wp2
          go_ret
          exact ⟨by rw [HF.out]; rfl, by (repeat (first | exact Below.refl _ _ | (with_reducible assumption) | refine Below.drew ?_ | refine Below.drewN' ?_ _ | refine Below.alloc ?_ (by first | omega | (simp; done) | (simp; omega)) _ | refine Below.setCell ?_ (by first | omega | (simp; done) | (simp; omega)) _ | refine Below.then ?_ hb9 (by first | omega | (simp; done) | (simp; omega)) | refine Below.then ?_ hb8 (by first | omega | (simp; done) | (simp; omega)) | refine Below.then ?_ hb7 (by first | omega | (simp; done) | (simp; omega)) | refine Below.then ?_ hb6 (by first | omega | (simp; done) | (simp; omega)) | refine Below.then ?_ hb5 (by first | omega | (simp; done) | (simp; omega)) | refine Below.then ?_ hb4 (by first | omega | (simp; done) | (simp; omega)) | refine Below.then ?_ hb3 (by first | omega | (simp; done) | (simp; omega)) | refine Below.then ?_ hb2 (by first | omega | (simp; done) | (simp; omega)) | refine Below.then ?_ hb1 (by first | omega | (simp; done) | (simp; omega))))⟩
        · have hall' := Lib.hid (show ∀ j (h : j < ss.length), j < k + 1 → ss[j].size ≤ 20 from fun j h hj => by
            by_cases e : j = k
            · subst e; omega
            · exact hall.out j h (by omega))
          clear hall
          go_wp2
          go_roundw
          case rel => exact ⟨k + 1, by omega, by go_num, by (repeat (first | exact Below.refl _ _ | (with_reducible assumption) | refine Below.drew ?_ | refine Below.drewN' ?_ _ | refine Below.alloc ?_ (by first | omega | (simp; done) | (simp; omega)) _ | refine Below.setCell ?_ (by first | omega | (simp; done) | (simp; omega)) _ | refine Below.then ?_ hb9 (by first | omega | (simp; done) | (simp; omega)) | refine Below.then ?_ hb8 (by first | omega | (simp; done) | (simp; omega)) | refine Below.then ?_ hb7 (by first | omega | (simp; done) | (simp; omega)) | refine Below.then ?_ hb6 (by first | omega | (simp; done) | (simp; omega)) | refine Below.then ?_ hb5 (by first | omega | (simp; done) | (simp; omega)) | refine Below.then ?_ hb4 (by first | omega | (simp; done) | (simp; omega)) | refine Below.then ?_ hb3 (by first | omega | (simp; done) | (simp; omega)) | refine Below.then ?_ hb2 (by first | omega | (simp; done) | (simp; omega)) | refine Below.then ?_ hb1 (by first | omega | (simp; done) | (simp; omega)))), hall'⟩
          case measure => simp [intOf]; omega
      · obtain rfl : k = ss.length := by omega
        have hf : vastB ss = false := by
          simp only [vastB, Bool.or_eq_false_iff, decide_eq_false_iff_not, List.any_eq_false, decide_eq_true_eq]
          refine ⟨h2, fun s hs => ?_⟩
          obtain ⟨j, hj, rfl⟩ := List.mem_iff_getElem.1 hs
          have := hall.out j hj hj
          omega
        have HF := Lib.hid hf
        clear hall hf
        go_wp2
        go_ret
        exact ⟨by rw [HF.out]; rfl, by (repeat (first | exact Below.refl _ _ | (with_reducible assumption) | refine Below.drew ?_ | refine Below.drewN' ?_ _ | refine Below.alloc ?_ (by first | omega | (simp; done) | (simp; omega)) _ | refine Below.setCell ?_ (by first | omega | (simp; done) | (simp; omega)) _ | refine Below.then ?_ hb9 (by first | omega | (simp; done) | (simp; omega)) | refine Below.then ?_ hb8 (by first | omega | (simp; done) | (simp; omega)) | refine Below.then ?_ hb7 (by first | omega | (simp; done) | (simp; omega)) | refine Below.then ?_ hb6 (by first | omega | (simp; done) | (simp; omega)) | refine Below.then ?_ hb5 (by first | omega | (simp; done) | (simp; omega)) | refine Below.then ?_ hb4 (by first | omega | (simp; done) | (simp; omega)) | refine Below.then ?_ hb3 (by first | omega | (simp; done) | (simp; omega)) | refine Below.then ?_ hb2 (by first | omega | (simp; done) | (simp; omega)) | refine Below.then ?_ hb1 (by first | omega | (simp; done) | (simp; omega))))⟩

end Go.Proofs.YtcdfhceohjhogaaDoor
