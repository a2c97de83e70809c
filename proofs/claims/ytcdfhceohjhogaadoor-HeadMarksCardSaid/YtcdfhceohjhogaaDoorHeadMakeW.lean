/- The statement 'HeadMake', walked: it returns true at every header. -/
import Derived.Test.YtcdfhceohjhogaaDoorLaw04
namespace Go.Proofs.YtcdfhceohjhogaaDoor
open Go.RowKit

theorem of_word {s m : Int} (h : rightB s m = true) : hOk (hWord s m) = true ∧ hShape (hWord s m) = s ∧ hMark (hWord s m) = m ∧ 0 ≤ hWord s m ∧ hWord s m < 18446744073709551616 := by
  obtain ⟨h0, h1, h2, h3⟩ := rightB_mk.1 h
  have hk : hOk (hWord s m) = true := by
    unfold hOk hWord
    rw [decide_eq_true_eq]
    omega
  refine ⟨hk, ?_, ?_, ?_, ?_⟩
  · unfold hShape; rw [if_pos hk]; unfold hWord; omega
  · unfold hMark; rw [if_pos hk]; unfold hWord; omega
  · unfold hWord; omega
  · unfold hWord; omega

set_option maxHeartbeats 1600000 in
theorem headMake_walk (w : World) (s : Int) (_ws : (Lit.int .i64 s).wf = true) (m : Int) (_wm : (Lit.int .i64 m).wf = true) :
    Calls Tryd.prog 3 #[.agg #[.int .i64 s, .int .i64 m]] w fun e w' => e = .returned (.bool true) ∧ Below w.heap.size w w' := by
  have h1 := fun w => make_calls s m w
  have h2 := fun w => refMake_calls s m w
  have H4 := Lib.hid (fun w => works04_calls w)
  cases hr : rightB s m with
  | true =>
    obtain ⟨e1, e2, e3, e4, e5⟩ := of_word hr
    have h3 := fun w => of_calls (hWord s m) e4 e5 w
    rw [e1, e2, e3] at h3
    rw [show hMakeW s m = hWord s m by simp [hMakeW, hr], show hMakeE s m = 0 by simp [hMakeE, hr]] at h1 h2
    have H1 := Lib.hid h1
    have H2 := Lib.hid h2
    have H3 := Lib.hid h3
    clear h1 h2 h3 hr e1 e2 e3
    go_enter Tryd.func3, Tryd.ntmps3
    go_wp2_with fail
    refine (H1.out _).mono ?_; rintro e1 w1 ⟨rfl, hb1⟩; obtain ⟨hc1, hf1⟩ := bcell hb1; have hz1 := hb1.size; (try simp at hz1)
    have q0 := hc1 w.heap.size 0 (by first | omega | (simp; done) | (simp; omega)); simp [go_sem] at q0
    have q1 := hc1 w.heap.size 1 (by first | omega | (simp; done) | (simp; omega)); simp [go_sem] at q1
    go_wp2_with fail
    refine (H2.out _).mono ?_; rintro e2 w2 ⟨rfl, hb2⟩; obtain ⟨hc2, hf2⟩ := bcell hb2; have hz2 := hb2.size; (try simp at hz2)
    replace q0 := hold_cell (w2 := w2) q0 (by (repeat (first | exact Below.refl _ _ | (with_reducible assumption) | refine Below.drew ?_ | refine Below.drewN' ?_ _ | refine Below.alloc ?_ (by first | omega | (simp; done) | (simp; omega)) _ | refine Below.setCell ?_ (by first | omega | (simp; done) | (simp; omega)) _ | refine Below.then ?_ hb9 (by first | omega | (simp; done) | (simp; omega)) | refine Below.then ?_ hb8 (by first | omega | (simp; done) | (simp; omega)) | refine Below.then ?_ hb7 (by first | omega | (simp; done) | (simp; omega)) | refine Below.then ?_ hb6 (by first | omega | (simp; done) | (simp; omega)) | refine Below.then ?_ hb5 (by first | omega | (simp; done) | (simp; omega)) | refine Below.then ?_ hb4 (by first | omega | (simp; done) | (simp; omega)) | refine Below.then ?_ hb3 (by first | omega | (simp; done) | (simp; omega)) | refine Below.then ?_ hb2 (by first | omega | (simp; done) | (simp; omega)) | refine Below.then ?_ hb1 (by first | omega | (simp; done) | (simp; omega))))) (by first | omega | (simp; done) | (simp; omega))
    replace q1 := hold_cell (w2 := w2) q1 (by (repeat (first | exact Below.refl _ _ | (with_reducible assumption) | refine Below.drew ?_ | refine Below.drewN' ?_ _ | refine Below.alloc ?_ (by first | omega | (simp; done) | (simp; omega)) _ | refine Below.setCell ?_ (by first | omega | (simp; done) | (simp; omega)) _ | refine Below.then ?_ hb9 (by first | omega | (simp; done) | (simp; omega)) | refine Below.then ?_ hb8 (by first | omega | (simp; done) | (simp; omega)) | refine Below.then ?_ hb7 (by first | omega | (simp; done) | (simp; omega)) | refine Below.then ?_ hb6 (by first | omega | (simp; done) | (simp; omega)) | refine Below.then ?_ hb5 (by first | omega | (simp; done) | (simp; omega)) | refine Below.then ?_ hb4 (by first | omega | (simp; done) | (simp; omega)) | refine Below.then ?_ hb3 (by first | omega | (simp; done) | (simp; omega)) | refine Below.then ?_ hb2 (by first | omega | (simp; done) | (simp; omega)) | refine Below.then ?_ hb1 (by first | omega | (simp; done) | (simp; omega))))) (by first | omega | (simp; done) | (simp; omega))
    go_wp2_with fail
    refine (H3.out _).mono ?_; rintro e3 w3 ⟨rfl, hb3⟩; obtain ⟨hc3, hf3⟩ := bcell hb3; have hz3 := hb3.size; (try simp at hz3)
    replace q0 := hold_cell (w2 := w3) q0 (by (repeat (first | exact Below.refl _ _ | (with_reducible assumption) | refine Below.drew ?_ | refine Below.drewN' ?_ _ | refine Below.alloc ?_ (by first | omega | (simp; done) | (simp; omega)) _ | refine Below.setCell ?_ (by first | omega | (simp; done) | (simp; omega)) _ | refine Below.then ?_ hb9 (by first | omega | (simp; done) | (simp; omega)) | refine Below.then ?_ hb8 (by first | omega | (simp; done) | (simp; omega)) | refine Below.then ?_ hb7 (by first | omega | (simp; done) | (simp; omega)) | refine Below.then ?_ hb6 (by first | omega | (simp; done) | (simp; omega)) | refine Below.then ?_ hb5 (by first | omega | (simp; done) | (simp; omega)) | refine Below.then ?_ hb4 (by first | omega | (simp; done) | (simp; omega)) | refine Below.then ?_ hb3 (by first | omega | (simp; done) | (simp; omega)) | refine Below.then ?_ hb2 (by first | omega | (simp; done) | (simp; omega)) | refine Below.then ?_ hb1 (by first | omega | (simp; done) | (simp; omega))))) (by first | omega | (simp; done) | (simp; omega))
    replace q1 := hold_cell (w2 := w3) q1 (by (repeat (first | exact Below.refl _ _ | (with_reducible assumption) | refine Below.drew ?_ | refine Below.drewN' ?_ _ | refine Below.alloc ?_ (by first | omega | (simp; done) | (simp; omega)) _ | refine Below.setCell ?_ (by first | omega | (simp; done) | (simp; omega)) _ | refine Below.then ?_ hb9 (by first | omega | (simp; done) | (simp; omega)) | refine Below.then ?_ hb8 (by first | omega | (simp; done) | (simp; omega)) | refine Below.then ?_ hb7 (by first | omega | (simp; done) | (simp; omega)) | refine Below.then ?_ hb6 (by first | omega | (simp; done) | (simp; omega)) | refine Below.then ?_ hb5 (by first | omega | (simp; done) | (simp; omega)) | refine Below.then ?_ hb4 (by first | omega | (simp; done) | (simp; omega)) | refine Below.then ?_ hb3 (by first | omega | (simp; done) | (simp; omega)) | refine Below.then ?_ hb2 (by first | omega | (simp; done) | (simp; omega)) | refine Below.then ?_ hb1 (by first | omega | (simp; done) | (simp; omega))))) (by first | omega | (simp; done) | (simp; omega))
    have l3 : w.heap.size < w3.heap.size := by first | omega | (simp; done) | (simp; omega)
    go_wp2_with (go_at_call 18; go_in)
    refine (H4.out _).mono ?_; rintro e4 w4 ⟨rfl, hb4⟩; obtain ⟨hc4, hf4⟩ := bcell hb4; have hz4 := hb4.size; (try simp at hz4)
    go_wp2
    go_ret
    exact ⟨rfl, by (repeat (first | exact Below.refl _ _ | (with_reducible assumption) | refine Below.drew ?_ | refine Below.drewN' ?_ _ | refine Below.alloc ?_ (by first | omega | (simp; done) | (simp; omega)) _ | refine Below.setCell ?_ (by first | omega | (simp; done) | (simp; omega)) _ | refine Below.then ?_ hb9 (by first | omega | (simp; done) | (simp; omega)) | refine Below.then ?_ hb8 (by first | omega | (simp; done) | (simp; omega)) | refine Below.then ?_ hb7 (by first | omega | (simp; done) | (simp; omega)) | refine Below.then ?_ hb6 (by first | omega | (simp; done) | (simp; omega)) | refine Below.then ?_ hb5 (by first | omega | (simp; done) | (simp; omega)) | refine Below.then ?_ hb4 (by first | omega | (simp; done) | (simp; omega)) | refine Below.then ?_ hb3 (by first | omega | (simp; done) | (simp; omega)) | refine Below.then ?_ hb2 (by first | omega | (simp; done) | (simp; omega)) | refine Below.then ?_ hb1 (by first | omega | (simp; done) | (simp; omega))))⟩
  | false =>
    have h3 := fun w => of_calls 0 (by omega) (by omega) w
    rw [show hOk 0 = false from by decide, show hShape 0 = 0 from by decide, show hMark 0 = 0 from by decide] at h3
    rw [show hMakeW s m = 0 by simp [hMakeW, hr], show hMakeE s m = 2 by simp [hMakeE, hr]] at h1 h2
    have H1 := Lib.hid h1
    have H2 := Lib.hid h2
    have H3 := Lib.hid h3
    clear h1 h2 h3 hr
    go_enter Tryd.func3, Tryd.ntmps3
    go_wp2_with fail
    refine (H1.out _).mono ?_; rintro e1 w1 ⟨rfl, hb1⟩; obtain ⟨hc1, hf1⟩ := bcell hb1; have hz1 := hb1.size; (try simp at hz1)
    have q0 := hc1 w.heap.size 0 (by first | omega | (simp; done) | (simp; omega)); simp [go_sem] at q0
    have q1 := hc1 w.heap.size 1 (by first | omega | (simp; done) | (simp; omega)); simp [go_sem] at q1
    go_wp2_with fail
    refine (H2.out _).mono ?_; rintro e2 w2 ⟨rfl, hb2⟩; obtain ⟨hc2, hf2⟩ := bcell hb2; have hz2 := hb2.size; (try simp at hz2)
    replace q0 := hold_cell (w2 := w2) q0 (by (repeat (first | exact Below.refl _ _ | (with_reducible assumption) | refine Below.drew ?_ | refine Below.drewN' ?_ _ | refine Below.alloc ?_ (by first | omega | (simp; done) | (simp; omega)) _ | refine Below.setCell ?_ (by first | omega | (simp; done) | (simp; omega)) _ | refine Below.then ?_ hb9 (by first | omega | (simp; done) | (simp; omega)) | refine Below.then ?_ hb8 (by first | omega | (simp; done) | (simp; omega)) | refine Below.then ?_ hb7 (by first | omega | (simp; done) | (simp; omega)) | refine Below.then ?_ hb6 (by first | omega | (simp; done) | (simp; omega)) | refine Below.then ?_ hb5 (by first | omega | (simp; done) | (simp; omega)) | refine Below.then ?_ hb4 (by first | omega | (simp; done) | (simp; omega)) | refine Below.then ?_ hb3 (by first | omega | (simp; done) | (simp; omega)) | refine Below.then ?_ hb2 (by first | omega | (simp; done) | (simp; omega)) | refine Below.then ?_ hb1 (by first | omega | (simp; done) | (simp; omega))))) (by first | omega | (simp; done) | (simp; omega))
    replace q1 := hold_cell (w2 := w2) q1 (by (repeat (first | exact Below.refl _ _ | (with_reducible assumption) | refine Below.drew ?_ | refine Below.drewN' ?_ _ | refine Below.alloc ?_ (by first | omega | (simp; done) | (simp; omega)) _ | refine Below.setCell ?_ (by first | omega | (simp; done) | (simp; omega)) _ | refine Below.then ?_ hb9 (by first | omega | (simp; done) | (simp; omega)) | refine Below.then ?_ hb8 (by first | omega | (simp; done) | (simp; omega)) | refine Below.then ?_ hb7 (by first | omega | (simp; done) | (simp; omega)) | refine Below.then ?_ hb6 (by first | omega | (simp; done) | (simp; omega)) | refine Below.then ?_ hb5 (by first | omega | (simp; done) | (simp; omega)) | refine Below.then ?_ hb4 (by first | omega | (simp; done) | (simp; omega)) | refine Below.then ?_ hb3 (by first | omega | (simp; done) | (simp; omega)) | refine Below.then ?_ hb2 (by first | omega | (simp; done) | (simp; omega)) | refine Below.then ?_ hb1 (by first | omega | (simp; done) | (simp; omega))))) (by first | omega | (simp; done) | (simp; omega))
    go_wp2_with fail
    refine (H3.out _).mono ?_; rintro e3 w3 ⟨rfl, hb3⟩; obtain ⟨hc3, hf3⟩ := bcell hb3; have hz3 := hb3.size; (try simp at hz3)
    replace q0 := hold_cell (w2 := w3) q0 (by (repeat (first | exact Below.refl _ _ | (with_reducible assumption) | refine Below.drew ?_ | refine Below.drewN' ?_ _ | refine Below.alloc ?_ (by first | omega | (simp; done) | (simp; omega)) _ | refine Below.setCell ?_ (by first | omega | (simp; done) | (simp; omega)) _ | refine Below.then ?_ hb9 (by first | omega | (simp; done) | (simp; omega)) | refine Below.then ?_ hb8 (by first | omega | (simp; done) | (simp; omega)) | refine Below.then ?_ hb7 (by first | omega | (simp; done) | (simp; omega)) | refine Below.then ?_ hb6 (by first | omega | (simp; done) | (simp; omega)) | refine Below.then ?_ hb5 (by first | omega | (simp; done) | (simp; omega)) | refine Below.then ?_ hb4 (by first | omega | (simp; done) | (simp; omega)) | refine Below.then ?_ hb3 (by first | omega | (simp; done) | (simp; omega)) | refine Below.then ?_ hb2 (by first | omega | (simp; done) | (simp; omega)) | refine Below.then ?_ hb1 (by first | omega | (simp; done) | (simp; omega))))) (by first | omega | (simp; done) | (simp; omega))
    replace q1 := hold_cell (w2 := w3) q1 (by (repeat (first | exact Below.refl _ _ | (with_reducible assumption) | refine Below.drew ?_ | refine Below.drewN' ?_ _ | refine Below.alloc ?_ (by first | omega | (simp; done) | (simp; omega)) _ | refine Below.setCell ?_ (by first | omega | (simp; done) | (simp; omega)) _ | refine Below.then ?_ hb9 (by first | omega | (simp; done) | (simp; omega)) | refine Below.then ?_ hb8 (by first | omega | (simp; done) | (simp; omega)) | refine Below.then ?_ hb7 (by first | omega | (simp; done) | (simp; omega)) | refine Below.then ?_ hb6 (by first | omega | (simp; done) | (simp; omega)) | refine Below.then ?_ hb5 (by first | omega | (simp; done) | (simp; omega)) | refine Below.then ?_ hb4 (by first | omega | (simp; done) | (simp; omega)) | refine Below.then ?_ hb3 (by first | omega | (simp; done) | (simp; omega)) | refine Below.then ?_ hb2 (by first | omega | (simp; done) | (simp; omega)) | refine Below.then ?_ hb1 (by first | omega | (simp; done) | (simp; omega))))) (by first | omega | (simp; done) | (simp; omega))
    have l3 : w.heap.size < w3.heap.size := by first | omega | (simp; done) | (simp; omega)
    go_wp2_with (go_at_call 18; go_in)
    refine (H4.out _).mono ?_; rintro e4 w4 ⟨rfl, hb4⟩; obtain ⟨hc4, hf4⟩ := bcell hb4; have hz4 := hb4.size; (try simp at hz4)
    go_wp2
    go_ret
    exact ⟨rfl, by (repeat (first | exact Below.refl _ _ | (with_reducible assumption) | refine Below.drew ?_ | refine Below.drewN' ?_ _ | refine Below.alloc ?_ (by first | omega | (simp; done) | (simp; omega)) _ | refine Below.setCell ?_ (by first | omega | (simp; done) | (simp; omega)) _ | refine Below.then ?_ hb9 (by first | omega | (simp; done) | (simp; omega)) | refine Below.then ?_ hb8 (by first | omega | (simp; done) | (simp; omega)) | refine Below.then ?_ hb7 (by first | omega | (simp; done) | (simp; omega)) | refine Below.then ?_ hb6 (by first | omega | (simp; done) | (simp; omega)) | refine Below.then ?_ hb5 (by first | omega | (simp; done) | (simp; omega)) | refine Below.then ?_ hb4 (by first | omega | (simp; done) | (simp; omega)) | refine Below.then ?_ hb3 (by first | omega | (simp; done) | (simp; omega)) | refine Below.then ?_ hb2 (by first | omega | (simp; done) | (simp; omega)) | refine Below.then ?_ hb1 (by first | omega | (simp; done) | (simp; omega))))⟩

end Go.Proofs.YtcdfhceohjhogaaDoor
