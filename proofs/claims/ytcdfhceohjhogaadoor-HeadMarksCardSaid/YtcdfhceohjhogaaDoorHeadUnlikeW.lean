/- The statements 'HeadUnlike' and 'HeadMarks', walked: they return true at every input. -/
import Derived.Test.YtcdfhceohjhogaaDoorHeadMakeW
import Derived.Test.YtcdfhceohjhogaaDoorLiftKit
namespace Go.Proofs.YtcdfhceohjhogaaDoor
open Go.RowKit

set_option maxHeartbeats 1600000 in
theorem headUnlike_walk (w : World) (a : Int) (wa : (Lit.int .u64 a).wf = true) (b : Int) (wb : (Lit.int .u64 b).wf = true) :
    Calls Tryd.prog 7 #[.int .u64 a, .int .u64 b] w fun e w' => e = .returned (.bool true) ∧ Below w.heap.size w w' := by
  obtain ⟨a0, a1⟩ := wf_u64 wa
  obtain ⟨b0, b1⟩ := wf_u64 wb
  clear wa wb
  have h1 := fun w => of_calls a a0 a1 w
  have h2 := fun w => of_calls b b0 b1 w
  have H4 := Lib.hid (fun w => works04_calls w)
  cases hka : hOk a with
  | false =>
    rw [hka] at h1
    have H1 := Lib.hid h1
    have H2 := Lib.hid h2
    clear h1 h2 hka
    go_enter Tryd.func7, Tryd.ntmps7
    go_wp2_with fail
    refine (H1.out _).mono ?_; rintro e1 w1 ⟨rfl, hb1⟩; obtain ⟨hc1, hf1⟩ := bcell hb1; have hz1 := hb1.size; (try simp at hz1)
    go_wp2_with fail
    refine (H2.out _).mono ?_; rintro e2 w2 ⟨rfl, hb2⟩; obtain ⟨hc2, hf2⟩ := bcell hb2; have hz2 := hb2.size; (try simp at hz2)
    go_wp2_with fail
    refine (H4.out _).mono ?_; rintro e3 w3 ⟨rfl, hb3⟩; obtain ⟨hc3, hf3⟩ := bcell hb3; have hz3 := hb3.size; (try simp at hz3)
    go_wp2
    go_ret
    exact ⟨rfl, by (repeat (first | exact Below.refl _ _ | (with_reducible assumption) | refine Below.drew ?_ | refine Below.drewN' ?_ _ | refine Below.alloc ?_ (by first | omega | (simp; done) | (simp; omega)) _ | refine Below.setCell ?_ (by first | omega | (simp; done) | (simp; omega)) _ | refine Below.then ?_ hb9 (by first | omega | (simp; done) | (simp; omega)) | refine Below.then ?_ hb8 (by first | omega | (simp; done) | (simp; omega)) | refine Below.then ?_ hb7 (by first | omega | (simp; done) | (simp; omega)) | refine Below.then ?_ hb6 (by first | omega | (simp; done) | (simp; omega)) | refine Below.then ?_ hb5 (by first | omega | (simp; done) | (simp; omega)) | refine Below.then ?_ hb4 (by first | omega | (simp; done) | (simp; omega)) | refine Below.then ?_ hb3 (by first | omega | (simp; done) | (simp; omega)) | refine Below.then ?_ hb2 (by first | omega | (simp; done) | (simp; omega)) | refine Below.then ?_ hb1 (by first | omega | (simp; done) | (simp; omega))))⟩
  | true =>
  cases hkb : hOk b with
  | false =>
    rw [hka] at h1
    rw [hkb] at h2
    have H1 := Lib.hid h1
    have H2 := Lib.hid h2
    clear h1 h2 hka hkb
    go_enter Tryd.func7, Tryd.ntmps7
    go_wp2_with fail
    refine (H1.out _).mono ?_; rintro e1 w1 ⟨rfl, hb1⟩; obtain ⟨hc1, hf1⟩ := bcell hb1; have hz1 := hb1.size; (try simp at hz1)
    go_wp2_with fail
    refine (H2.out _).mono ?_; rintro e2 w2 ⟨rfl, hb2⟩; obtain ⟨hc2, hf2⟩ := bcell hb2; have hz2 := hb2.size; (try simp at hz2)
    go_wp2_with fail
    refine (H4.out _).mono ?_; rintro e3 w3 ⟨rfl, hb3⟩; obtain ⟨hc3, hf3⟩ := bcell hb3; have hz3 := hb3.size; (try simp at hz3)
    go_wp2
    go_ret
    exact ⟨rfl, by (repeat (first | exact Below.refl _ _ | (with_reducible assumption) | refine Below.drew ?_ | refine Below.drewN' ?_ _ | refine Below.alloc ?_ (by first | omega | (simp; done) | (simp; omega)) _ | refine Below.setCell ?_ (by first | omega | (simp; done) | (simp; omega)) _ | refine Below.then ?_ hb9 (by first | omega | (simp; done) | (simp; omega)) | refine Below.then ?_ hb8 (by first | omega | (simp; done) | (simp; omega)) | refine Below.then ?_ hb7 (by first | omega | (simp; done) | (simp; omega)) | refine Below.then ?_ hb6 (by first | omega | (simp; done) | (simp; omega)) | refine Below.then ?_ hb5 (by first | omega | (simp; done) | (simp; omega)) | refine Below.then ?_ hb4 (by first | omega | (simp; done) | (simp; omega)) | refine Below.then ?_ hb3 (by first | omega | (simp; done) | (simp; omega)) | refine Below.then ?_ hb2 (by first | omega | (simp; done) | (simp; omega)) | refine Below.then ?_ hb1 (by first | omega | (simp; done) | (simp; omega))))⟩
  | true =>
    have pa := hOk_bounds a0 hka
    have pb := hOk_bounds b0 hkb
    rw [hka] at h1
    rw [hkb] at h2
    have H1 := Lib.hid h1
    have H2 := Lib.hid h2
    clear h1 h2 hka hkb
    by_cases hab : a = b
    · subst hab
      clear pa pb
      go_enter Tryd.func7, Tryd.ntmps7
      go_wp2_with fail
      refine (H1.out _).mono ?_; rintro e1 w1 ⟨rfl, hb1⟩; obtain ⟨hc1, hf1⟩ := bcell hb1; have hz1 := hb1.size; (try simp at hz1)
      go_wp2_with fail
      refine (H2.out _).mono ?_; rintro e2 w2 ⟨rfl, hb2⟩; obtain ⟨hc2, hf2⟩ := bcell hb2; have hz2 := hb2.size; (try simp at hz2)
      have l2 : w1.heap.size < w2.heap.size := by first | omega | (simp; done) | (simp; omega)
      go_wp2_with fail
      refine (H4.out _).mono ?_; rintro e3 w3 ⟨rfl, hb3⟩; obtain ⟨hc3, hf3⟩ := bcell hb3; have hz3 := hb3.size; (try simp at hz3)
      go_wp2
      go_ret
      exact ⟨rfl, by (repeat (first | exact Below.refl _ _ | (with_reducible assumption) | refine Below.drew ?_ | refine Below.drewN' ?_ _ | refine Below.alloc ?_ (by first | omega | (simp; done) | (simp; omega)) _ | refine Below.setCell ?_ (by first | omega | (simp; done) | (simp; omega)) _ | refine Below.then ?_ hb9 (by first | omega | (simp; done) | (simp; omega)) | refine Below.then ?_ hb8 (by first | omega | (simp; done) | (simp; omega)) | refine Below.then ?_ hb7 (by first | omega | (simp; done) | (simp; omega)) | refine Below.then ?_ hb6 (by first | omega | (simp; done) | (simp; omega)) | refine Below.then ?_ hb5 (by first | omega | (simp; done) | (simp; omega)) | refine Below.then ?_ hb4 (by first | omega | (simp; done) | (simp; omega)) | refine Below.then ?_ hb3 (by first | omega | (simp; done) | (simp; omega)) | refine Below.then ?_ hb2 (by first | omega | (simp; done) | (simp; omega)) | refine Below.then ?_ hb1 (by first | omega | (simp; done) | (simp; omega))))⟩
    · have f0 : (a == b) = false := by simp [hab]
      by_cases hs : hShape a = hShape b
      · have f1 : (hMark a == hMark b) = false := by
          rw [beq_eq_false_iff_ne]
          intro e
          apply hab
          rw [pa.2.2.2.2, pb.2.2.2.2, hs, e]
        have f2 : (hShape a == hShape b) = true := by simp [hs]
        clear pa pb hab hs
        go_enter Tryd.func7, Tryd.ntmps7
        go_wp2_with fail
        refine (H1.out _).mono ?_; rintro e1 w1 ⟨rfl, hb1⟩; obtain ⟨hc1, hf1⟩ := bcell hb1; have hz1 := hb1.size; (try simp at hz1)
        go_wp2_with fail
        refine (H2.out _).mono ?_; rintro e2 w2 ⟨rfl, hb2⟩; obtain ⟨hc2, hf2⟩ := bcell hb2; have hz2 := hb2.size; (try simp at hz2)
        have l2 : w1.heap.size < w2.heap.size := by first | omega | (simp; done) | (simp; omega)
        go_wp2_with fail
        refine (H4.out _).mono ?_; rintro e3 w3 ⟨rfl, hb3⟩; obtain ⟨hc3, hf3⟩ := bcell hb3; have hz3 := hb3.size; (try simp at hz3)
        go_wp2
        go_ret
        exact ⟨rfl, by (repeat (first | exact Below.refl _ _ | (with_reducible assumption) | refine Below.drew ?_ | refine Below.drewN' ?_ _ | refine Below.alloc ?_ (by first | omega | (simp; done) | (simp; omega)) _ | refine Below.setCell ?_ (by first | omega | (simp; done) | (simp; omega)) _ | refine Below.then ?_ hb9 (by first | omega | (simp; done) | (simp; omega)) | refine Below.then ?_ hb8 (by first | omega | (simp; done) | (simp; omega)) | refine Below.then ?_ hb7 (by first | omega | (simp; done) | (simp; omega)) | refine Below.then ?_ hb6 (by first | omega | (simp; done) | (simp; omega)) | refine Below.then ?_ hb5 (by first | omega | (simp; done) | (simp; omega)) | refine Below.then ?_ hb4 (by first | omega | (simp; done) | (simp; omega)) | refine Below.then ?_ hb3 (by first | omega | (simp; done) | (simp; omega)) | refine Below.then ?_ hb2 (by first | omega | (simp; done) | (simp; omega)) | refine Below.then ?_ hb1 (by first | omega | (simp; done) | (simp; omega))))⟩
      · have f2 : (hShape a == hShape b) = false := by simp [hs]
        clear pa pb hab hs
        go_enter Tryd.func7, Tryd.ntmps7
        go_wp2_with fail
        refine (H1.out _).mono ?_; rintro e1 w1 ⟨rfl, hb1⟩; obtain ⟨hc1, hf1⟩ := bcell hb1; have hz1 := hb1.size; (try simp at hz1)
        go_wp2_with fail
        refine (H2.out _).mono ?_; rintro e2 w2 ⟨rfl, hb2⟩; obtain ⟨hc2, hf2⟩ := bcell hb2; have hz2 := hb2.size; (try simp at hz2)
        have l2 : w1.heap.size < w2.heap.size := by first | omega | (simp; done) | (simp; omega)
        go_wp2_with fail
        refine (H4.out _).mono ?_; rintro e3 w3 ⟨rfl, hb3⟩; obtain ⟨hc3, hf3⟩ := bcell hb3; have hz3 := hb3.size; (try simp at hz3)
        go_wp2
        go_ret
        exact ⟨rfl, by (repeat (first | exact Below.refl _ _ | (with_reducible assumption) | refine Below.drew ?_ | refine Below.drewN' ?_ _ | refine Below.alloc ?_ (by first | omega | (simp; done) | (simp; omega)) _ | refine Below.setCell ?_ (by first | omega | (simp; done) | (simp; omega)) _ | refine Below.then ?_ hb9 (by first | omega | (simp; done) | (simp; omega)) | refine Below.then ?_ hb8 (by first | omega | (simp; done) | (simp; omega)) | refine Below.then ?_ hb7 (by first | omega | (simp; done) | (simp; omega)) | refine Below.then ?_ hb6 (by first | omega | (simp; done) | (simp; omega)) | refine Below.then ?_ hb5 (by first | omega | (simp; done) | (simp; omega)) | refine Below.then ?_ hb4 (by first | omega | (simp; done) | (simp; omega)) | refine Below.then ?_ hb3 (by first | omega | (simp; done) | (simp; omega)) | refine Below.then ?_ hb2 (by first | omega | (simp; done) | (simp; omega)) | refine Below.then ?_ hb1 (by first | omega | (simp; done) | (simp; omega))))⟩

theorem marked_word {s a b : Int} (ha : rightB s a = true) (hb : markB b = true) : markedW (hWord s a) b = hWord s b ∧ markedE (hWord s a) b = 0 := by
  obtain ⟨e1, e2, e3, _, _⟩ := of_word ha
  exact ⟨by simp [markedW, e1, e2, hb], by simp [markedE, e1, hb]⟩

set_option maxHeartbeats 1600000 in
theorem headMarks_walk (w : World) (x : Int) (wx : (Lit.int .u64 x).wf = true) (a : Int) (_wa : (Lit.int .i64 a).wf = true) (b : Int) (_wb : (Lit.int .i64 b).wf = true) :
    Calls Tryd.prog 8 #[.int .u64 x, .int .i64 a, .int .i64 b] w fun e w' => e = .returned (.bool true) ∧ Below w.heap.size w w' := by
  obtain ⟨x0, x1⟩ := wf_u64 wx
  clear wx _wa _wb
  have h1 := fun w => of_calls x x0 x1 w
  have h2 := fun w => marked_calls x a x0 x1 w
  have h3 := fun w => marked_calls x b x0 x1 w
  have H4 := Lib.hid (fun w => works04_calls w)
  by_cases hok : hOk x = true ∧ markB a = true ∧ markB b = true
  · obtain ⟨hk, ha, hb⟩ := hok
    have px := hOk_bounds x0 hk
    have ra : rightB (hShape x) a = true := (right_of x0 hk).trans ha
    have hmm : markB (hMark x) = true := by simp [markB]; omega
    have hu : markedW x a = hWord (hShape x) a := by simp [markedW, hk, ha]
    have hv : markedW x b = hWord (hShape x) b := by simp [markedW, hk, hb]
    obtain ⟨_, _, _, u0, u1⟩ := of_word ra
    have h5 := fun w => marked_calls (hWord (hShape x) a) b u0 u1 w
    have h6 := fun w => marked_calls x (hMark x) x0 x1 w
    rw [(marked_word ra hb).1, (marked_word ra hb).2] at h5
    rw [show markedW x (hMark x) = x by simp only [markedW, hk, hmm, and_self, if_true]; exact px.2.2.2.2.symm, show markedE x (hMark x) = 0 by simp [markedE, hk, hmm]] at h6
    rw [hk] at h1
    rw [hu, show markedE x a = 0 by simp [markedE, hk, ha]] at h2
    rw [hv, show markedE x b = 0 by simp [markedE, hk, hb]] at h3
    have H1 := Lib.hid h1
    have H2 := Lib.hid h2
    have H3 := Lib.hid h3
    have H5 := Lib.hid h5
    have H6 := Lib.hid h6
    by_cases hab : a = b
    · subst hab
      clear h1 h2 h3 h5 h6 hu hv hk ha hb px ra hmm
      go_enter Tryd.func8, Tryd.ntmps8
      go_wp2_with fail
      refine (H1.out _).mono ?_; rintro e1 w1 ⟨rfl, hb1⟩; obtain ⟨hc1, hf1⟩ := bcell hb1; have hz1 := hb1.size; (try simp at hz1)
      go_wp2_with fail
      refine (H2.out _).mono ?_; rintro e2 w2 ⟨rfl, hb2⟩; obtain ⟨hc2, hf2⟩ := bcell hb2; have hz2 := hb2.size; (try simp at hz2)
      have q1 := hc2 w1.heap.size 1 (by first | omega | (simp; done) | (simp; omega)); simp [go_sem] at q1
      go_wp2_with fail
      refine (H3.out _).mono ?_; rintro e3 w3 ⟨rfl, hb3⟩; obtain ⟨hc3, hf3⟩ := bcell hb3; have hz3 := hb3.size; (try simp at hz3)
      replace q1 := hold_cell (w2 := w3) q1 (by (repeat (first | exact Below.refl _ _ | (with_reducible assumption) | refine Below.drew ?_ | refine Below.drewN' ?_ _ | refine Below.alloc ?_ (by first | omega | (simp; done) | (simp; omega)) _ | refine Below.setCell ?_ (by first | omega | (simp; done) | (simp; omega)) _ | refine Below.then ?_ hb9 (by first | omega | (simp; done) | (simp; omega)) | refine Below.then ?_ hb8 (by first | omega | (simp; done) | (simp; omega)) | refine Below.then ?_ hb7 (by first | omega | (simp; done) | (simp; omega)) | refine Below.then ?_ hb6 (by first | omega | (simp; done) | (simp; omega)) | refine Below.then ?_ hb5 (by first | omega | (simp; done) | (simp; omega)) | refine Below.then ?_ hb4 (by first | omega | (simp; done) | (simp; omega)) | refine Below.then ?_ hb3 (by first | omega | (simp; done) | (simp; omega)) | refine Below.then ?_ hb2 (by first | omega | (simp; done) | (simp; omega)) | refine Below.then ?_ hb1 (by first | omega | (simp; done) | (simp; omega))))) (by first | omega | (simp; done) | (simp; omega))
      go_wp2_with (go_at_call 18; go_in)
      refine (H5.out _).mono ?_; rintro e5 w5 ⟨rfl, hb5⟩; obtain ⟨hc5, hf5⟩ := bcell hb5; have hz5 := hb5.size; (try simp at hz5)
      replace q1 := hold_cell (w2 := w5) q1 (by (repeat (first | exact Below.refl _ _ | (with_reducible assumption) | refine Below.drew ?_ | refine Below.drewN' ?_ _ | refine Below.alloc ?_ (by first | omega | (simp; done) | (simp; omega)) _ | refine Below.setCell ?_ (by first | omega | (simp; done) | (simp; omega)) _ | refine Below.then ?_ hb9 (by first | omega | (simp; done) | (simp; omega)) | refine Below.then ?_ hb8 (by first | omega | (simp; done) | (simp; omega)) | refine Below.then ?_ hb7 (by first | omega | (simp; done) | (simp; omega)) | refine Below.then ?_ hb6 (by first | omega | (simp; done) | (simp; omega)) | refine Below.then ?_ hb5 (by first | omega | (simp; done) | (simp; omega)) | refine Below.then ?_ hb4 (by first | omega | (simp; done) | (simp; omega)) | refine Below.then ?_ hb3 (by first | omega | (simp; done) | (simp; omega)) | refine Below.then ?_ hb2 (by first | omega | (simp; done) | (simp; omega)) | refine Below.then ?_ hb1 (by first | omega | (simp; done) | (simp; omega))))) (by first | omega | (simp; done) | (simp; omega))
      go_wp2_with fail
      refine (H6.out _).mono ?_; rintro e6 w6 ⟨rfl, hb6⟩; obtain ⟨hc6, hf6⟩ := bcell hb6; have hz6 := hb6.size; (try simp at hz6)
      go_wp2_with (go_at_call 18; go_in)
      refine (H4.out _).mono ?_; rintro e4 w4 ⟨rfl, hb4⟩; obtain ⟨hc4, hf4⟩ := bcell hb4; have hz4 := hb4.size; (try simp at hz4)
      go_wp2
      go_ret
      exact ⟨rfl, by (repeat (first | exact Below.refl _ _ | (with_reducible assumption) | refine Below.drew ?_ | refine Below.drewN' ?_ _ | refine Below.alloc ?_ (by first | omega | (simp; done) | (simp; omega)) _ | refine Below.setCell ?_ (by first | omega | (simp; done) | (simp; omega)) _ | refine Below.then ?_ hb9 (by first | omega | (simp; done) | (simp; omega)) | refine Below.then ?_ hb8 (by first | omega | (simp; done) | (simp; omega)) | refine Below.then ?_ hb7 (by first | omega | (simp; done) | (simp; omega)) | refine Below.then ?_ hb6 (by first | omega | (simp; done) | (simp; omega)) | refine Below.then ?_ hb5 (by first | omega | (simp; done) | (simp; omega)) | refine Below.then ?_ hb4 (by first | omega | (simp; done) | (simp; omega)) | refine Below.then ?_ hb3 (by first | omega | (simp; done) | (simp; omega)) | refine Below.then ?_ hb2 (by first | omega | (simp; done) | (simp; omega)) | refine Below.then ?_ hb1 (by first | omega | (simp; done) | (simp; omega))))⟩
    · have f1 : (hWord (hShape x) a == hWord (hShape x) b) = false := by
        rw [beq_eq_false_iff_ne]
        intro e
        unfold hWord at e
        omega
      have f2 : (a == b) = false := by simp [hab]
      clear h1 h2 h3 h5 h6 hu hv hk ha hb px ra hmm hab
      go_enter Tryd.func8, Tryd.ntmps8
      go_wp2_with fail
      refine (H1.out _).mono ?_; rintro e1 w1 ⟨rfl, hb1⟩; obtain ⟨hc1, hf1⟩ := bcell hb1; have hz1 := hb1.size; (try simp at hz1)
      go_wp2_with fail
      refine (H2.out _).mono ?_; rintro e2 w2 ⟨rfl, hb2⟩; obtain ⟨hc2, hf2⟩ := bcell hb2; have hz2 := hb2.size; (try simp at hz2)
      have q1 := hc2 w1.heap.size 1 (by first | omega | (simp; done) | (simp; omega)); simp [go_sem] at q1
      go_wp2_with fail
      refine (H3.out _).mono ?_; rintro e3 w3 ⟨rfl, hb3⟩; obtain ⟨hc3, hf3⟩ := bcell hb3; have hz3 := hb3.size; (try simp at hz3)
      replace q1 := hold_cell (w2 := w3) q1 (by (repeat (first | exact Below.refl _ _ | (with_reducible assumption) | refine Below.drew ?_ | refine Below.drewN' ?_ _ | refine Below.alloc ?_ (by first | omega | (simp; done) | (simp; omega)) _ | refine Below.setCell ?_ (by first | omega | (simp; done) | (simp; omega)) _ | refine Below.then ?_ hb9 (by first | omega | (simp; done) | (simp; omega)) | refine Below.then ?_ hb8 (by first | omega | (simp; done) | (simp; omega)) | refine Below.then ?_ hb7 (by first | omega | (simp; done) | (simp; omega)) | refine Below.then ?_ hb6 (by first | omega | (simp; done) | (simp; omega)) | refine Below.then ?_ hb5 (by first | omega | (simp; done) | (simp; omega)) | refine Below.then ?_ hb4 (by first | omega | (simp; done) | (simp; omega)) | refine Below.then ?_ hb3 (by first | omega | (simp; done) | (simp; omega)) | refine Below.then ?_ hb2 (by first | omega | (simp; done) | (simp; omega)) | refine Below.then ?_ hb1 (by first | omega | (simp; done) | (simp; omega))))) (by first | omega | (simp; done) | (simp; omega))
      go_wp2_with (go_at_call 18; go_in)
      refine (H5.out _).mono ?_; rintro e5 w5 ⟨rfl, hb5⟩; obtain ⟨hc5, hf5⟩ := bcell hb5; have hz5 := hb5.size; (try simp at hz5)
      replace q1 := hold_cell (w2 := w5) q1 (by (repeat (first | exact Below.refl _ _ | (with_reducible assumption) | refine Below.drew ?_ | refine Below.drewN' ?_ _ | refine Below.alloc ?_ (by first | omega | (simp; done) | (simp; omega)) _ | refine Below.setCell ?_ (by first | omega | (simp; done) | (simp; omega)) _ | refine Below.then ?_ hb9 (by first | omega | (simp; done) | (simp; omega)) | refine Below.then ?_ hb8 (by first | omega | (simp; done) | (simp; omega)) | refine Below.then ?_ hb7 (by first | omega | (simp; done) | (simp; omega)) | refine Below.then ?_ hb6 (by first | omega | (simp; done) | (simp; omega)) | refine Below.then ?_ hb5 (by first | omega | (simp; done) | (simp; omega)) | refine Below.then ?_ hb4 (by first | omega | (simp; done) | (simp; omega)) | refine Below.then ?_ hb3 (by first | omega | (simp; done) | (simp; omega)) | refine Below.then ?_ hb2 (by first | omega | (simp; done) | (simp; omega)) | refine Below.then ?_ hb1 (by first | omega | (simp; done) | (simp; omega))))) (by first | omega | (simp; done) | (simp; omega))
      go_wp2_with fail
      refine (H6.out _).mono ?_; rintro e6 w6 ⟨rfl, hb6⟩; obtain ⟨hc6, hf6⟩ := bcell hb6; have hz6 := hb6.size; (try simp at hz6)
      go_wp2_with (go_at_call 18; go_in)
      refine (H4.out _).mono ?_; rintro e4 w4 ⟨rfl, hb4⟩; obtain ⟨hc4, hf4⟩ := bcell hb4; have hz4 := hb4.size; (try simp at hz4)
      go_wp2
      go_ret
      exact ⟨rfl, by (repeat (first | exact Below.refl _ _ | (with_reducible assumption) | refine Below.drew ?_ | refine Below.drewN' ?_ _ | refine Below.alloc ?_ (by first | omega | (simp; done) | (simp; omega)) _ | refine Below.setCell ?_ (by first | omega | (simp; done) | (simp; omega)) _ | refine Below.then ?_ hb9 (by first | omega | (simp; done) | (simp; omega)) | refine Below.then ?_ hb8 (by first | omega | (simp; done) | (simp; omega)) | refine Below.then ?_ hb7 (by first | omega | (simp; done) | (simp; omega)) | refine Below.then ?_ hb6 (by first | omega | (simp; done) | (simp; omega)) | refine Below.then ?_ hb5 (by first | omega | (simp; done) | (simp; omega)) | refine Below.then ?_ hb4 (by first | omega | (simp; done) | (simp; omega)) | refine Below.then ?_ hb3 (by first | omega | (simp; done) | (simp; omega)) | refine Below.then ?_ hb2 (by first | omega | (simp; done) | (simp; omega)) | refine Below.then ?_ hb1 (by first | omega | (simp; done) | (simp; omega))))⟩
  · have hq : hOk x = false ∨ (hOk x = true ∧ markedE x a = 2 ∧ markedE x b = 2) ∨ (hOk x = true ∧ markedE x a = 2 ∧ markedE x b = 0) ∨ (hOk x = true ∧ markedE x a = 0 ∧ markedE x b = 2) := by
      cases hk : hOk x <;> cases ha : markB a <;> cases hb : markB b <;> simp_all [markedE]
    clear hok
    rcases hq with hk | ⟨hk, ea, eb⟩ | ⟨hk, ea, eb⟩ | ⟨hk, ea, eb⟩
    all_goals
      rw [hk] at h1
      (try rw [ea] at h2)
      (try rw [eb] at h3)
      have H1 := Lib.hid h1
      have H2 := Lib.hid h2
      have H3 := Lib.hid h3
      clear h1 h2 h3
      (try clear ea eb)
      clear hk
    · go_enter Tryd.func8, Tryd.ntmps8
      go_wp2_with fail
      refine (H1.out _).mono ?_; rintro e1 w1 ⟨rfl, hb1⟩; obtain ⟨hc1, hf1⟩ := bcell hb1; have hz1 := hb1.size; (try simp at hz1)
      go_wp2_with fail
      refine (H2.out _).mono ?_; rintro e2 w2 ⟨rfl, hb2⟩; obtain ⟨hc2, hf2⟩ := bcell hb2; have hz2 := hb2.size; (try simp at hz2)
      go_wp2_with fail
      refine (H3.out _).mono ?_; rintro e3 w3 ⟨rfl, hb3⟩; obtain ⟨hc3, hf3⟩ := bcell hb3; have hz3 := hb3.size; (try simp at hz3)
      go_wp2_with (go_at_call 18; go_in)
      refine (H4.out _).mono ?_; rintro e4 w4 ⟨rfl, hb4⟩; obtain ⟨hc4, hf4⟩ := bcell hb4; have hz4 := hb4.size; (try simp at hz4)
      go_wp2
      go_ret
      exact ⟨rfl, by (repeat (first | exact Below.refl _ _ | (with_reducible assumption) | refine Below.drew ?_ | refine Below.drewN' ?_ _ | refine Below.alloc ?_ (by first | omega | (simp; done) | (simp; omega)) _ | refine Below.setCell ?_ (by first | omega | (simp; done) | (simp; omega)) _ | refine Below.then ?_ hb9 (by first | omega | (simp; done) | (simp; omega)) | refine Below.then ?_ hb8 (by first | omega | (simp; done) | (simp; omega)) | refine Below.then ?_ hb7 (by first | omega | (simp; done) | (simp; omega)) | refine Below.then ?_ hb6 (by first | omega | (simp; done) | (simp; omega)) | refine Below.then ?_ hb5 (by first | omega | (simp; done) | (simp; omega)) | refine Below.then ?_ hb4 (by first | omega | (simp; done) | (simp; omega)) | refine Below.then ?_ hb3 (by first | omega | (simp; done) | (simp; omega)) | refine Below.then ?_ hb2 (by first | omega | (simp; done) | (simp; omega)) | refine Below.then ?_ hb1 (by first | omega | (simp; done) | (simp; omega))))⟩
    · go_enter Tryd.func8, Tryd.ntmps8
      go_wp2_with fail
      refine (H1.out _).mono ?_; rintro e1 w1 ⟨rfl, hb1⟩; obtain ⟨hc1, hf1⟩ := bcell hb1; have hz1 := hb1.size; (try simp at hz1)
      go_wp2_with fail
      refine (H2.out _).mono ?_; rintro e2 w2 ⟨rfl, hb2⟩; obtain ⟨hc2, hf2⟩ := bcell hb2; have hz2 := hb2.size; (try simp at hz2)
      go_wp2_with fail
      refine (H3.out _).mono ?_; rintro e3 w3 ⟨rfl, hb3⟩; obtain ⟨hc3, hf3⟩ := bcell hb3; have hz3 := hb3.size; (try simp at hz3)
      go_wp2_with (go_at_call 18; go_in)
      refine (H4.out _).mono ?_; rintro e4 w4 ⟨rfl, hb4⟩; obtain ⟨hc4, hf4⟩ := bcell hb4; have hz4 := hb4.size; (try simp at hz4)
      go_wp2
      go_ret
      exact ⟨rfl, by (repeat (first | exact Below.refl _ _ | (with_reducible assumption) | refine Below.drew ?_ | refine Below.drewN' ?_ _ | refine Below.alloc ?_ (by first | omega | (simp; done) | (simp; omega)) _ | refine Below.setCell ?_ (by first | omega | (simp; done) | (simp; omega)) _ | refine Below.then ?_ hb9 (by first | omega | (simp; done) | (simp; omega)) | refine Below.then ?_ hb8 (by first | omega | (simp; done) | (simp; omega)) | refine Below.then ?_ hb7 (by first | omega | (simp; done) | (simp; omega)) | refine Below.then ?_ hb6 (by first | omega | (simp; done) | (simp; omega)) | refine Below.then ?_ hb5 (by first | omega | (simp; done) | (simp; omega)) | refine Below.then ?_ hb4 (by first | omega | (simp; done) | (simp; omega)) | refine Below.then ?_ hb3 (by first | omega | (simp; done) | (simp; omega)) | refine Below.then ?_ hb2 (by first | omega | (simp; done) | (simp; omega)) | refine Below.then ?_ hb1 (by first | omega | (simp; done) | (simp; omega))))⟩
    · go_enter Tryd.func8, Tryd.ntmps8
      go_wp2_with fail
      refine (H1.out _).mono ?_; rintro e1 w1 ⟨rfl, hb1⟩; obtain ⟨hc1, hf1⟩ := bcell hb1; have hz1 := hb1.size; (try simp at hz1)
      go_wp2_with fail
      refine (H2.out _).mono ?_; rintro e2 w2 ⟨rfl, hb2⟩; obtain ⟨hc2, hf2⟩ := bcell hb2; have hz2 := hb2.size; (try simp at hz2)
      go_wp2_with fail
      refine (H3.out _).mono ?_; rintro e3 w3 ⟨rfl, hb3⟩; obtain ⟨hc3, hf3⟩ := bcell hb3; have hz3 := hb3.size; (try simp at hz3)
      go_wp2_with (go_at_call 18; go_in)
      refine (H4.out _).mono ?_; rintro e4 w4 ⟨rfl, hb4⟩; obtain ⟨hc4, hf4⟩ := bcell hb4; have hz4 := hb4.size; (try simp at hz4)
      go_wp2
      go_ret
      exact ⟨rfl, by (repeat (first | exact Below.refl _ _ | (with_reducible assumption) | refine Below.drew ?_ | refine Below.drewN' ?_ _ | refine Below.alloc ?_ (by first | omega | (simp; done) | (simp; omega)) _ | refine Below.setCell ?_ (by first | omega | (simp; done) | (simp; omega)) _ | refine Below.then ?_ hb9 (by first | omega | (simp; done) | (simp; omega)) | refine Below.then ?_ hb8 (by first | omega | (simp; done) | (simp; omega)) | refine Below.then ?_ hb7 (by first | omega | (simp; done) | (simp; omega)) | refine Below.then ?_ hb6 (by first | omega | (simp; done) | (simp; omega)) | refine Below.then ?_ hb5 (by first | omega | (simp; done) | (simp; omega)) | refine Below.then ?_ hb4 (by first | omega | (simp; done) | (simp; omega)) | refine Below.then ?_ hb3 (by first | omega | (simp; done) | (simp; omega)) | refine Below.then ?_ hb2 (by first | omega | (simp; done) | (simp; omega)) | refine Below.then ?_ hb1 (by first | omega | (simp; done) | (simp; omega))))⟩
    · go_enter Tryd.func8, Tryd.ntmps8
      go_wp2_with fail
      refine (H1.out _).mono ?_; rintro e1 w1 ⟨rfl, hb1⟩; obtain ⟨hc1, hf1⟩ := bcell hb1; have hz1 := hb1.size; (try simp at hz1)
      go_wp2_with fail
      refine (H2.out _).mono ?_; rintro e2 w2 ⟨rfl, hb2⟩; obtain ⟨hc2, hf2⟩ := bcell hb2; have hz2 := hb2.size; (try simp at hz2)
      go_wp2_with fail
      refine (H3.out _).mono ?_; rintro e3 w3 ⟨rfl, hb3⟩; obtain ⟨hc3, hf3⟩ := bcell hb3; have hz3 := hb3.size; (try simp at hz3)
      go_wp2_with (go_at_call 18; go_in)
      refine (H4.out _).mono ?_; rintro e4 w4 ⟨rfl, hb4⟩; obtain ⟨hc4, hf4⟩ := bcell hb4; have hz4 := hb4.size; (try simp at hz4)
      go_wp2
      go_ret
      exact ⟨rfl, by (repeat (first | exact Below.refl _ _ | (with_reducible assumption) | refine Below.drew ?_ | refine Below.drewN' ?_ _ | refine Below.alloc ?_ (by first | omega | (simp; done) | (simp; omega)) _ | refine Below.setCell ?_ (by first | omega | (simp; done) | (simp; omega)) _ | refine Below.then ?_ hb9 (by first | omega | (simp; done) | (simp; omega)) | refine Below.then ?_ hb8 (by first | omega | (simp; done) | (simp; omega)) | refine Below.then ?_ hb7 (by first | omega | (simp; done) | (simp; omega)) | refine Below.then ?_ hb6 (by first | omega | (simp; done) | (simp; omega)) | refine Below.then ?_ hb5 (by first | omega | (simp; done) | (simp; omega)) | refine Below.then ?_ hb4 (by first | omega | (simp; done) | (simp; omega)) | refine Below.then ?_ hb3 (by first | omega | (simp; done) | (simp; omega)) | refine Below.then ?_ hb2 (by first | omega | (simp; done) | (simp; omega)) | refine Below.then ?_ hb1 (by first | omega | (simp; done) | (simp; omega))))⟩

end Go.Proofs.YtcdfhceohjhogaaDoor
