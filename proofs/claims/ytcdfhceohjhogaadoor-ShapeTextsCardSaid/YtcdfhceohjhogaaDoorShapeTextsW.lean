/- The statements ShapeTexts and ShapeReads, as walks: a table's text is read as the table; the table of any text is as the reference says, and has that text. -/
import Derived.Test.YtcdfhceohjhogaaDoorLaw03
import Derived.Test.YtcdfhceohjhogaaDoorRefRead
namespace Go.Proofs.YtcdfhceohjhogaaDoor
open Go.RowKit

set_option maxRecDepth 100000 in
set_option maxHeartbeats 3200000 in
theorem shapeTexts_walk (w : World) (a : Option Addr) (c : Nat) (ss : List ByteArray) (hn : ss.length ≤ maxLen) (h : SlOf w a (strV ss)) (hs : ∀ s ∈ ss, s.size ≤ maxLen) :
    Calls Tryd.prog 11 #[.slice a ss.length c] w fun e w' => e = .returned (.bool true) ∧ Below w.heap.size w w' := by
  have HS := Lib.hid h
  have hv := fun w h => vast_calls a c ss ⟨hn, hs⟩ w h
  have h1 := fun w h => text_calls a c ss hn w h
  have h2 := fun w h => refRight_calls a c ss ⟨hn, hs⟩ w h
  have HW := Lib.hid works03_calls
  clear h
  cases hvb : vastB ss with
  | true =>
    rw [hvb] at hv
    have HV := Lib.hid hv
    clear hv hvb h1 h2
    go_enter Tryd.func11, Tryd.ntmps11
    go_wp2_with fail
    refine (HV.out _ HS.out).mono ?_; rintro e1 w1 ⟨rfl, hb1⟩; have hz1 := hb1.size; (try simp at hz1)
    go_wp2_with fail
    refine (HW.out _).mono ?_; rintro e2 w2 ⟨rfl, hb2⟩; have hz2 := hb2.size; (try simp at hz2)
    go_wp2
    go_ret
    exact ⟨rfl, by (repeat (first | exact Below.refl _ _ | (with_reducible assumption) | refine Below.drew ?_ | refine Below.drewN' ?_ _ | refine Below.alloc ?_ (by first | omega | (simp; done) | (simp; omega)) _ | refine Below.setCell ?_ (by first | omega | (simp; done) | (simp; omega)) _ | refine Below.then ?_ hb9 (by first | omega | (simp; done) | (simp; omega)) | refine Below.then ?_ hb8 (by first | omega | (simp; done) | (simp; omega)) | refine Below.then ?_ hb7 (by first | omega | (simp; done) | (simp; omega)) | refine Below.then ?_ hb6 (by first | omega | (simp; done) | (simp; omega)) | refine Below.then ?_ hb5 (by first | omega | (simp; done) | (simp; omega)) | refine Below.then ?_ hb4 (by first | omega | (simp; done) | (simp; omega)) | refine Below.then ?_ hb3 (by first | omega | (simp; done) | (simp; omega)) | refine Below.then ?_ hb2 (by first | omega | (simp; done) | (simp; omega)) | refine Below.then ?_ hb1 (by first | omega | (simp; done) | (simp; omega))))⟩
  | false =>
    rw [hvb] at hv
    have HV := Lib.hid hv
    cases ht : tableB ss with
    | false =>
      have e1 : textS ss = ⟨#[]⟩ := by simp [textS, ht]
      have e3 : checkE ss = 2 := by simp [checkE, ht]
      rw [e1, e3] at h1
      rw [ht] at h2
      have H1 := Lib.hid h1
      have H2 := Lib.hid h2
      clear hv hvb hs h1 h2 e1 e3 ht
      go_enter Tryd.func11, Tryd.ntmps11
      go_wp2_with fail
      refine (HV.out _ HS.out).mono ?_; rintro e1 w1 ⟨rfl, hb1⟩; have hz1 := hb1.size; (try simp at hz1)
      have hS1 := Lib.hid (HS.out.below hb1)
      go_wp2_with fail
      refine (H1.out _ hS1.out).mono ?_; rintro e2 w2 ⟨rfl, hb2⟩; have hz2 := hb2.size; (try simp at hz2)
      have hS2 := Lib.hid (hS1.out.below hb2)
      go_wp2_with fail
      refine (H2.out _ hS2.out).mono ?_; rintro e3 w3 ⟨rfl, hb3⟩; have hz3 := hb3.size; (try simp at hz3)
      go_wp2_with (go_at_call 34; go_in)
      refine (HW.out _).mono ?_; rintro e4 w4 ⟨rfl, hb4⟩; have hz4 := hb4.size; (try simp at hz4)
      go_wp2
      go_ret
      exact ⟨rfl, by (repeat (first | exact Below.refl _ _ | (with_reducible assumption) | refine Below.drew ?_ | refine Below.drewN' ?_ _ | refine Below.alloc ?_ (by first | omega | (simp; done) | (simp; omega)) _ | refine Below.setCell ?_ (by first | omega | (simp; done) | (simp; omega)) _ | refine Below.then ?_ hb9 (by first | omega | (simp; done) | (simp; omega)) | refine Below.then ?_ hb8 (by first | omega | (simp; done) | (simp; omega)) | refine Below.then ?_ hb7 (by first | omega | (simp; done) | (simp; omega)) | refine Below.then ?_ hb6 (by first | omega | (simp; done) | (simp; omega)) | refine Below.then ?_ hb5 (by first | omega | (simp; done) | (simp; omega)) | refine Below.then ?_ hb4 (by first | omega | (simp; done) | (simp; omega)) | refine Below.then ?_ hb3 (by first | omega | (simp; done) | (simp; omega)) | refine Below.then ?_ hb2 (by first | omega | (simp; done) | (simp; omega)) | refine Below.then ?_ hb1 (by first | omega | (simp; done) | (simp; omega))))⟩
    | true =>
      have e1 : textS ss = textOf ss := by simp [textS, ht]
      have e3 : checkE ss = 0 := by simp [checkE, ht]
      have h3 := fun w => read_calls (textOf ss) (by have := textOf_small ss ht; unfold maxLen; omega) w
      have h4 := fun w h => refText_calls a c ss ht w h
      have h5 := fun a' c' w h h' => refSame_calls a' a c' c ss ss hn hn w h h'
      have e4 : decide (ss = ss) = true := by simp
      rw [readL_text ss ht, readE_text ss ht] at h3
      rw [e4] at h5
      rw [e1, e3] at h1
      rw [ht] at h2
      have H1 := Lib.hid h1
      have H2 := Lib.hid h2
      have H3 := Lib.hid h3
      have H4 := Lib.hid h4
      have H5 := Lib.hid h5
      generalize textOf ss = t at H1 H3 H4
      clear hv hvb hs h1 h2 h3 h4 h5 e1 e3 e4 ht
      go_enter Tryd.func11, Tryd.ntmps11
      go_wp2_with fail
      refine (HV.out _ HS.out).mono ?_; rintro e1 w1 ⟨rfl, hb1⟩; have hz1 := hb1.size; (try simp at hz1)
      have hS1 := Lib.hid (HS.out.below hb1)
      go_wp2_with fail
      refine (H1.out _ hS1.out).mono ?_; rintro e2 w2 ⟨rfl, hb2⟩; have hz2 := hb2.size; (try simp at hz2)
      have hS2 := Lib.hid (hS1.out.below hb2)
      go_wp2_with fail
      refine (H2.out _ hS2.out).mono ?_; rintro e3 w3 ⟨rfl, hb3⟩; have hz3 := hb3.size; (try simp at hz3)
      have hS3 := Lib.hid (hS2.out.below hb3)
      go_wp2_with fail
      refine (H3.out _).mono ?_
      rintro e4 w4 ⟨a4, c4, rfl, hs4, hb4⟩
      have hz4 := hb4.size
      have hS4 := Lib.hid (hS3.out.below hb4)
      have hR4 := Lib.hid hs4
      clear hs4
      go_wp2_with fail
      refine (H4.out _ hS4.out).mono ?_; rintro e5 w5 ⟨rfl, hb5⟩; have hz5 := hb5.size; (try simp at hz5)
      have hS5 := Lib.hid (hS4.out.below hb5)
      have hR5 := Lib.hid (hR4.out.below hb5)
      go_wp2_with (go_at_call 34; go_in)
      refine (H5.out _ _ _ hR5.out hS5.out).mono ?_; rintro e6 w6 ⟨rfl, hb6⟩; have hz6 := hb6.size; (try simp at hz6)
      go_wp2_with fail
      refine (HW.out _).mono ?_; rintro e7 w7 ⟨rfl, hb7⟩; have hz7 := hb7.size; (try simp at hz7)
      go_wp2
      go_ret
      exact ⟨rfl, by (repeat (first | exact Below.refl _ _ | (with_reducible assumption) | refine Below.drew ?_ | refine Below.drewN' ?_ _ | refine Below.alloc ?_ (by first | omega | (simp; done) | (simp; omega)) _ | refine Below.setCell ?_ (by first | omega | (simp; done) | (simp; omega)) _ | refine Below.then ?_ hb9 (by first | omega | (simp; done) | (simp; omega)) | refine Below.then ?_ hb8 (by first | omega | (simp; done) | (simp; omega)) | refine Below.then ?_ hb7 (by first | omega | (simp; done) | (simp; omega)) | refine Below.then ?_ hb6 (by first | omega | (simp; done) | (simp; omega)) | refine Below.then ?_ hb5 (by first | omega | (simp; done) | (simp; omega)) | refine Below.then ?_ hb4 (by first | omega | (simp; done) | (simp; omega)) | refine Below.then ?_ hb3 (by first | omega | (simp; done) | (simp; omega)) | refine Below.then ?_ hb2 (by first | omega | (simp; done) | (simp; omega)) | refine Below.then ?_ hb1 (by first | omega | (simp; done) | (simp; omega))))⟩

set_option maxRecDepth 100000 in
set_option maxHeartbeats 3200000 in
theorem shapeReads_walk (w : World) (s : ByteArray) (hs : s.size ≤ maxLen) :
    Calls Tryd.prog 12 #[.string s] w fun e w' => e = .returned (.bool true) ∧ Below w.heap.size w w' := by
  have HW := Lib.hid works03_calls
  have h1 := fun w => read_calls s hs w
  have h2 := fun w => refRead_calls s hs w
  unfold maxLen at hs
  by_cases h250 : 250 < s.size
  · clear h1 h2
    go_enter Tryd.func12, Tryd.ntmps12
    go_wp2_with fail
    refine (HW.out _).mono ?_; rintro e1 w1 ⟨rfl, hb1⟩; have hz1 := hb1.size; (try simp at hz1)
    go_wp2
    go_ret
    exact ⟨rfl, by (repeat (first | exact Below.refl _ _ | (with_reducible assumption) | refine Below.drew ?_ | refine Below.drewN' ?_ _ | refine Below.alloc ?_ (by first | omega | (simp; done) | (simp; omega)) _ | refine Below.setCell ?_ (by first | omega | (simp; done) | (simp; omega)) _ | refine Below.then ?_ hb9 (by first | omega | (simp; done) | (simp; omega)) | refine Below.then ?_ hb8 (by first | omega | (simp; done) | (simp; omega)) | refine Below.then ?_ hb7 (by first | omega | (simp; done) | (simp; omega)) | refine Below.then ?_ hb6 (by first | omega | (simp; done) | (simp; omega)) | refine Below.then ?_ hb5 (by first | omega | (simp; done) | (simp; omega)) | refine Below.then ?_ hb4 (by first | omega | (simp; done) | (simp; omega)) | refine Below.then ?_ hb3 (by first | omega | (simp; done) | (simp; omega)) | refine Below.then ?_ hb2 (by first | omega | (simp; done) | (simp; omega)) | refine Below.then ?_ hb1 (by first | omega | (simp; done) | (simp; omega))))⟩
  · have hn : (readL s).length ≤ maxLen := by
      cases hr : readB s with
      | true => have := table_len (read_table s hr); unfold maxLen; omega
      | false => unfold readL; rw [hr]; exact Nat.zero_le _
    have h3 := fun a' c' a c w h h' => refSame_calls a' a c' c (readL s) (readL s) hn hn w h h'
    have e4 : decide (readL s = readL s) = true := by simp
    rw [e4] at h3
    have h4 := fun a c w h => text_calls a c (readL s) hn w h
    cases hr : readB s with
    | true =>
      have e1 : readE s = 0 := by simp [readE, hr]
      have e2 : textS (readL s) = s := by unfold textS; rw [if_pos (read_table s hr), text_readL s hr]
      have e3 : checkE (readL s) = 0 := by simp [checkE, read_table s hr]
      rw [e1] at h1 h2
      rw [e2, e3] at h4
      have H1 := Lib.hid h1
      have H2 := Lib.hid h2
      have H3 := Lib.hid h3
      have H4 := Lib.hid h4
      clear h1 h2 h3 h4 e1 e2 e3 e4 hr
      go_enter Tryd.func12, Tryd.ntmps12
      go_wp2_with fail
      refine (H1.out _).mono ?_
      rintro e1 w1 ⟨a1, c1, rfl, hs1, hb1⟩
      have hz1 := hb1.size
      have hR1 := Lib.hid hs1
      clear hs1
      go_wp2_with fail
      refine (H2.out _).mono ?_
      rintro e2 w2 ⟨a2, c2, rfl, hs2, hb2⟩
      have hz2 := hb2.size
      have hR2 := Lib.hid (hR1.out.below hb2)
      have hT2 := Lib.hid hs2
      clear hs2
      go_wp2_with (go_at_call 34; go_in)
      refine (H3.out _ _ _ _ _ hR2.out hT2.out).mono ?_; rintro e3 w3 ⟨rfl, hb3⟩; have hz3 := hb3.size; (try simp at hz3)
      have hR3 := Lib.hid (hR2.out.below hb3)
      go_wp2_with fail
      refine (H4.out _ _ _ hR3.out).mono ?_; rintro e4 w4 ⟨rfl, hb4⟩; have hz4 := hb4.size; (try simp at hz4)
      go_wp2_with (go_at_call 34; go_in)
      refine (HW.out _).mono ?_; rintro e5 w5 ⟨rfl, hb5⟩; have hz5 := hb5.size; (try simp at hz5)
      go_wp2
      go_ret
      exact ⟨rfl, by (repeat (first | exact Below.refl _ _ | (with_reducible assumption) | refine Below.drew ?_ | refine Below.drewN' ?_ _ | refine Below.alloc ?_ (by first | omega | (simp; done) | (simp; omega)) _ | refine Below.setCell ?_ (by first | omega | (simp; done) | (simp; omega)) _ | refine Below.then ?_ hb9 (by first | omega | (simp; done) | (simp; omega)) | refine Below.then ?_ hb8 (by first | omega | (simp; done) | (simp; omega)) | refine Below.then ?_ hb7 (by first | omega | (simp; done) | (simp; omega)) | refine Below.then ?_ hb6 (by first | omega | (simp; done) | (simp; omega)) | refine Below.then ?_ hb5 (by first | omega | (simp; done) | (simp; omega)) | refine Below.then ?_ hb4 (by first | omega | (simp; done) | (simp; omega)) | refine Below.then ?_ hb3 (by first | omega | (simp; done) | (simp; omega)) | refine Below.then ?_ hb2 (by first | omega | (simp; done) | (simp; omega)) | refine Below.then ?_ hb1 (by first | omega | (simp; done) | (simp; omega))))⟩
    | false =>
      have e1 : readE s = 2 := by simp [readE, hr]
      rw [e1] at h1 h2
      have H1 := Lib.hid h1
      have H2 := Lib.hid h2
      have H3 := Lib.hid h3
      have H4 := Lib.hid h4
      clear h1 h2 h3 h4 e1 e4 hr
      go_enter Tryd.func12, Tryd.ntmps12
      go_wp2_with fail
      refine (H1.out _).mono ?_
      rintro e1 w1 ⟨a1, c1, rfl, hs1, hb1⟩
      have hz1 := hb1.size
      have hR1 := Lib.hid hs1
      clear hs1
      go_wp2_with fail
      refine (H2.out _).mono ?_
      rintro e2 w2 ⟨a2, c2, rfl, hs2, hb2⟩
      have hz2 := hb2.size
      have hR2 := Lib.hid (hR1.out.below hb2)
      have hT2 := Lib.hid hs2
      clear hs2
      go_wp2_with (go_at_call 34; go_in)
      refine (H3.out _ _ _ _ _ hR2.out hT2.out).mono ?_; rintro e3 w3 ⟨rfl, hb3⟩; have hz3 := hb3.size; (try simp at hz3)
      have hR3 := Lib.hid (hR2.out.below hb3)
      go_wp2_with fail
      refine (H4.out _ _ _ hR3.out).mono ?_; rintro e4 w4 ⟨rfl, hb4⟩; have hz4 := hb4.size; (try simp at hz4)
      go_wp2_with fail
      refine (HW.out _).mono ?_; rintro e5 w5 ⟨rfl, hb5⟩; have hz5 := hb5.size; (try simp at hz5)
      go_wp2
      go_ret
      exact ⟨rfl, by (repeat (first | exact Below.refl _ _ | (with_reducible assumption) | refine Below.drew ?_ | refine Below.drewN' ?_ _ | refine Below.alloc ?_ (by first | omega | (simp; done) | (simp; omega)) _ | refine Below.setCell ?_ (by first | omega | (simp; done) | (simp; omega)) _ | refine Below.then ?_ hb9 (by first | omega | (simp; done) | (simp; omega)) | refine Below.then ?_ hb8 (by first | omega | (simp; done) | (simp; omega)) | refine Below.then ?_ hb7 (by first | omega | (simp; done) | (simp; omega)) | refine Below.then ?_ hb6 (by first | omega | (simp; done) | (simp; omega)) | refine Below.then ?_ hb5 (by first | omega | (simp; done) | (simp; omega)) | refine Below.then ?_ hb4 (by first | omega | (simp; done) | (simp; omega)) | refine Below.then ?_ hb3 (by first | omega | (simp; done) | (simp; omega)) | refine Below.then ?_ hb2 (by first | omega | (simp; done) | (simp; omega)) | refine Below.then ?_ hb1 (by first | omega | (simp; done) | (simp; omega))))⟩

end Go.Proofs.YtcdfhceohjhogaaDoor
