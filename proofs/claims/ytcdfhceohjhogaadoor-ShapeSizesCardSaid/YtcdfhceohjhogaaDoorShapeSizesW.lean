/- The statements ShapeSizes and ShapeMost, as walks: which tables may be, and sizes, are as the reference says; the greatest size is one of the sizes, and none is greater. -/
import Derived.Test.YtcdfhceohjhogaaDoorLaw03
namespace Go.Proofs.YtcdfhceohjhogaaDoor
open Go.RowKit

set_option maxRecDepth 100000 in
set_option maxHeartbeats 3200000 in
theorem shapeSizes_walk (w : World) (a : Option Addr) (c : Nat) (ss : List ByteArray) (hn : ss.length ≤ maxLen) (h : SlOf w a (strV ss)) (hs : ∀ s ∈ ss, s.size ≤ maxLen) (n : Int) (_wn : (Lit.int .i64 n).wf = true) :
    Calls Tryd.prog 13 #[.slice a ss.length c, .int .i64 n] w fun e w' => e = .returned (.bool true) ∧ Below w.heap.size w w' := by
  have HS := Lib.hid h
  have hv := fun w h => vast_calls a c ss ⟨hn, hs⟩ w h
  have HW := Lib.hid works03_calls
  clear h
  cases hvb : vastB ss with
  | true =>
    rw [hvb] at hv
    have HV := Lib.hid hv
    clear hv hvb
    go_enter Tryd.func13, Tryd.ntmps13
    go_wp2_with fail
    refine (HV.out _ HS.out).mono ?_; rintro e1 w1 ⟨rfl, hb1⟩; have hz1 := hb1.size; (try simp at hz1)
    go_wp2_with fail
    refine (HW.out _).mono ?_; rintro e2 w2 ⟨rfl, hb2⟩; have hz2 := hb2.size; (try simp at hz2)
    go_wp2
    go_ret
    exact ⟨rfl, by (repeat (first | exact Below.refl _ _ | (with_reducible assumption) | refine Below.drew ?_ | refine Below.drewN' ?_ _ | refine Below.alloc ?_ (by first | omega | (simp; done) | (simp; omega)) _ | refine Below.setCell ?_ (by first | omega | (simp; done) | (simp; omega)) _ | refine Below.then ?_ hb9 (by first | omega | (simp; done) | (simp; omega)) | refine Below.then ?_ hb8 (by first | omega | (simp; done) | (simp; omega)) | refine Below.then ?_ hb7 (by first | omega | (simp; done) | (simp; omega)) | refine Below.then ?_ hb6 (by first | omega | (simp; done) | (simp; omega)) | refine Below.then ?_ hb5 (by first | omega | (simp; done) | (simp; omega)) | refine Below.then ?_ hb4 (by first | omega | (simp; done) | (simp; omega)) | refine Below.then ?_ hb3 (by first | omega | (simp; done) | (simp; omega)) | refine Below.then ?_ hb2 (by first | omega | (simp; done) | (simp; omega)) | refine Below.then ?_ hb1 (by first | omega | (simp; done) | (simp; omega))))⟩
  | false =>
    rw [hvb] at hv
    have HV := Lib.hid hv
    have h1 := fun w h => shSize_calls a c ss n hn w h
    have H2 := Lib.hid (fun w h => refSize_calls a c ss n ⟨hn, hs⟩ w h)
    have h3 := fun w h => most_calls a c ss hn w h
    have h4 := fun w h => refRight_calls a c ss ⟨hn, hs⟩ w h
    have h5 := fun w h => check_calls a c ss hn w h
    cases ht : tableB ss with
    | false =>
      have e1 : sizeN ss n = 0 := by unfold sizeN; rw [if_neg (by rw [ofE_bad n ht]; decide)]
      have e2 : mostM ss = 0 := by simp [mostM, ht]
      have e3 : checkE ss = 2 := by simp [checkE, ht]
      rw [ofE_bad n ht, e1] at h1
      rw [e2, e3] at h3
      rw [e3] at h5
      rw [ht] at h4
      have H1 := Lib.hid h1
      have H3 := Lib.hid h3
      have H4 := Lib.hid h4
      have H5 := Lib.hid h5
      clear hv hvb hs h1 h3 h4 h5 e1 e2 e3 ht
      go_enter Tryd.func13, Tryd.ntmps13
      go_wp2_with fail
      refine (HV.out _ HS.out).mono ?_; rintro e1 w1 ⟨rfl, hb1⟩; have hz1 := hb1.size; (try simp at hz1)
      have hS1 := Lib.hid (HS.out.below hb1)
      go_wp2_with fail
      refine (H1.out _ hS1.out).mono ?_; rintro e2 w2 ⟨rfl, hb2⟩; have hz2 := hb2.size; (try simp at hz2)
      have hS2 := Lib.hid (hS1.out.below hb2)
      go_wp2_with fail
      refine (H2.out _ hS2.out).mono ?_; rintro e3 w3 ⟨rfl, hb3⟩; have hz3 := hb3.size; (try simp at hz3)
      have hS3 := Lib.hid (hS2.out.below hb3)
      go_wp2_with fail
      refine (H3.out _ hS3.out).mono ?_; rintro e4 w4 ⟨rfl, hb4⟩; have hz4 := hb4.size; (try simp at hz4)
      have hS4 := Lib.hid (hS3.out.below hb4)
      go_wp2_with fail
      refine (H4.out _ hS4.out).mono ?_; rintro e5 w5 ⟨rfl, hb5⟩; have hz5 := hb5.size; (try simp at hz5)
      have hS5 := Lib.hid (hS4.out.below hb5)
      go_wp2_with (go_at_call 34; go_in)
      refine (H5.out _ hS5.out).mono ?_; rintro e6 w6 ⟨rfl, hb6⟩; have hz6 := hb6.size; (try simp at hz6)
      go_wp2_with (go_at_call 34; go_in)
      refine (HW.out _).mono ?_; rintro e7 w7 ⟨rfl, hb7⟩; have hz7 := hb7.size; (try simp at hz7)
      go_wp2
      go_ret
      exact ⟨rfl, by (repeat (first | exact Below.refl _ _ | (with_reducible assumption) | refine Below.drew ?_ | refine Below.drewN' ?_ _ | refine Below.alloc ?_ (by first | omega | (simp; done) | (simp; omega)) _ | refine Below.setCell ?_ (by first | omega | (simp; done) | (simp; omega)) _ | refine Below.then ?_ hb9 (by first | omega | (simp; done) | (simp; omega)) | refine Below.then ?_ hb8 (by first | omega | (simp; done) | (simp; omega)) | refine Below.then ?_ hb7 (by first | omega | (simp; done) | (simp; omega)) | refine Below.then ?_ hb6 (by first | omega | (simp; done) | (simp; omega)) | refine Below.then ?_ hb5 (by first | omega | (simp; done) | (simp; omega)) | refine Below.then ?_ hb4 (by first | omega | (simp; done) | (simp; omega)) | refine Below.then ?_ hb3 (by first | omega | (simp; done) | (simp; omega)) | refine Below.then ?_ hb2 (by first | omega | (simp; done) | (simp; omega)) | refine Below.then ?_ hb1 (by first | omega | (simp; done) | (simp; omega))))⟩
    | true =>
      have e2 : mostM ss = mostN ss := by simp [mostM, ht]
      have e3 : checkE ss = 0 := by simp [checkE, ht]
      have H6 := Lib.hid (fun w h => refMost_calls a c ss ht w h)
      rw [e2, e3] at h3
      rw [e3] at h5
      rw [ht] at h4
      have H1 := Lib.hid h1
      have H3 := Lib.hid h3
      have H4 := Lib.hid h4
      have H5 := Lib.hid h5
      clear hv hvb hs h1 h3 h4 h5 e2 e3 ht
      go_enter Tryd.func13, Tryd.ntmps13
      go_wp2_with fail
      refine (HV.out _ HS.out).mono ?_; rintro e1 w1 ⟨rfl, hb1⟩; have hz1 := hb1.size; (try simp at hz1)
      have hS1 := Lib.hid (HS.out.below hb1)
      go_wp2_with fail
      refine (H1.out _ hS1.out).mono ?_; rintro e2 w2 ⟨rfl, hb2⟩; have hz2 := hb2.size; (try simp at hz2)
      have hS2 := Lib.hid (hS1.out.below hb2)
      go_wp2_with fail
      refine (H2.out _ hS2.out).mono ?_; rintro e3 w3 ⟨rfl, hb3⟩; have hz3 := hb3.size; (try simp at hz3)
      have hS3 := Lib.hid (hS2.out.below hb3)
      go_wp2_with fail
      refine (H3.out _ hS3.out).mono ?_; rintro e4 w4 ⟨rfl, hb4⟩; have hz4 := hb4.size; (try simp at hz4)
      have hS4 := Lib.hid (hS3.out.below hb4)
      go_wp2_with fail
      refine (H4.out _ hS4.out).mono ?_; rintro e5 w5 ⟨rfl, hb5⟩; have hz5 := hb5.size; (try simp at hz5)
      have hS5 := Lib.hid (hS4.out.below hb5)
      go_wp2_with (go_at_call 34; go_in)
      refine (H6.out _ hS5.out).mono ?_; rintro e6 w6 ⟨rfl, hb6⟩; have hz6 := hb6.size; (try simp at hz6)
      have hS6 := Lib.hid (hS5.out.below hb6)
      go_wp2_with (go_at_call 34; go_in)
      refine (H5.out _ hS6.out).mono ?_; rintro e7 w7 ⟨rfl, hb7⟩; have hz7 := hb7.size; (try simp at hz7)
      go_wp2_with (go_at_call 34; go_in)
      refine (HW.out _).mono ?_; rintro e8 w8 ⟨rfl, hb8⟩; have hz8 := hb8.size; (try simp at hz8)
      go_wp2
      go_ret
      exact ⟨rfl, by (repeat (first | exact Below.refl _ _ | (with_reducible assumption) | refine Below.drew ?_ | refine Below.drewN' ?_ _ | refine Below.alloc ?_ (by first | omega | (simp; done) | (simp; omega)) _ | refine Below.setCell ?_ (by first | omega | (simp; done) | (simp; omega)) _ | refine Below.then ?_ hb9 (by first | omega | (simp; done) | (simp; omega)) | refine Below.then ?_ hb8 (by first | omega | (simp; done) | (simp; omega)) | refine Below.then ?_ hb7 (by first | omega | (simp; done) | (simp; omega)) | refine Below.then ?_ hb6 (by first | omega | (simp; done) | (simp; omega)) | refine Below.then ?_ hb5 (by first | omega | (simp; done) | (simp; omega)) | refine Below.then ?_ hb4 (by first | omega | (simp; done) | (simp; omega)) | refine Below.then ?_ hb3 (by first | omega | (simp; done) | (simp; omega)) | refine Below.then ?_ hb2 (by first | omega | (simp; done) | (simp; omega)) | refine Below.then ?_ hb1 (by first | omega | (simp; done) | (simp; omega))))⟩

end Go.Proofs.YtcdfhceohjhogaaDoor
