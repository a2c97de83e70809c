/- The statement ShapeKinds, as a walk: the kinds of fields are as the reference says. -/
import Derived.Test.YtcdfhceohjhogaaDoorLaw03
namespace Go.Proofs.YtcdfhceohjhogaaDoor
open Go.RowKit

theorem kindK_range (ss : List ByteArray) (i f : Int) : kindK ss i f = 0 ∨ kindK ss i f = 1 := by
  unfold kindK
  by_cases h : kindE ss i f = 0
  · rw [if_pos h]; unfold letterK; split <;> simp
  · rw [if_neg h]; exact .inl rfl

set_option maxRecDepth 100000 in
set_option maxHeartbeats 3200000 in
theorem shapeKinds_walk (w : World) (a : Option Addr) (c : Nat) (ss : List ByteArray) (hn : ss.length ≤ maxLen) (h : SlOf w a (strV ss)) (hs : ∀ s ∈ ss, s.size ≤ maxLen)
    (i : Int) (_wi : (Lit.int .i64 i).wf = true) (f : Int) (_wf : (Lit.int .i64 f).wf = true) (k : Int) (_wk : (Lit.int .i64 k).wf = true) :
    Calls Tryd.prog 9 #[.slice a ss.length c, .int .i64 i, .int .i64 f, .int .i64 k] w fun e w' => e = .returned (.bool true) ∧ Below w.heap.size w w' := by
  have HS := Lib.hid h
  have hv := fun w h => vast_calls a c ss ⟨hn, hs⟩ w h
  have HW := Lib.hid works03_calls
  clear h
  cases hvb : vastB ss with
  | true =>
    rw [hvb] at hv
    have HV := Lib.hid hv
    clear hv hvb
    go_enter Tryd.func9, Tryd.ntmps9
    go_wp2_with fail
    refine (HV.out _ HS.out).mono ?_; rintro e1 w1 ⟨rfl, hb1⟩; have hz1 := hb1.size; (try simp at hz1)
    go_wp2_with fail
    refine (HW.out _).mono ?_; rintro e2 w2 ⟨rfl, hb2⟩; have hz2 := hb2.size; (try simp at hz2)
    go_wp2
    go_ret
    exact ⟨rfl, by (repeat (first | exact Below.refl _ _ | (with_reducible assumption) | refine Below.drew ?_ | refine Below.drewN' ?_ _ | refine Below.alloc ?_ (by first | omega | (simp; done) | (simp; omega)) _ | refine Below.setCell ?_ (by first | omega | (simp; done) | (simp; omega)) _ | refine Below.then ?_ hb9 (by first | omega | (simp; done) | (simp; omega)) | refine Below.then ?_ hb8 (by first | omega | (simp; done) | (simp; omega)) | refine Below.then ?_ hb7 (by first | omega | (simp; done) | (simp; omega)) | refine Below.then ?_ hb6 (by first | omega | (simp; done) | (simp; omega)) | refine Below.then ?_ hb5 (by first | omega | (simp; done) | (simp; omega)) | refine Below.then ?_ hb4 (by first | omega | (simp; done) | (simp; omega)) | refine Below.then ?_ hb3 (by first | omega | (simp; done) | (simp; omega)) | refine Below.then ?_ hb2 (by first | omega | (simp; done) | (simp; omega)) | refine Below.then ?_ hb1 (by first | omega | (simp; done) | (simp; omega))))⟩
  | false =>
    rw [hvb] at hv
    have HV := Lib.hid hv
    have H1 := Lib.hid (fun w h => kind_calls a c ss i f hn w h)
    have H2 := Lib.hid (fun w h => refKind_calls a c ss i f ⟨hn, hs⟩ w h)
    have H3 := Lib.hid (fun w h => is_calls a c ss i f k hn w h)
    have H4 := Lib.hid (fun w h => refIs_calls a c ss i f k ⟨hn, hs⟩ w h)
    have hr := kindK_range ss i f
    clear hv hvb hs
    go_enter Tryd.func9, Tryd.ntmps9
    go_wp2_with fail
    refine (HV.out _ HS.out).mono ?_; rintro e1 w1 ⟨rfl, hb1⟩; have hz1 := hb1.size; (try simp at hz1)
    have hS1 := Lib.hid (HS.out.below hb1)
    go_wp2_with fail
    refine (H1.out _ hS1.out).mono ?_; rintro e2 w2 ⟨rfl, hb2⟩; have hz2 := hb2.size; (try simp at hz2)
    have hS2 := Lib.hid (hS1.out.below hb2)
    go_wp2_with fail
    refine (H2.out _ hS2.out).mono ?_; rintro e3 w3 ⟨rfl, hb3⟩; have hz3 := hb3.size; (try simp at hz3)
    have hS3 := Lib.hid (hS2.out.below hb3)
    go_wp2_with (go_at_call 34; go_in)
    refine (H3.out _ hS3.out).mono ?_; rintro e4 w4 ⟨rfl, hb4⟩; have hz4 := hb4.size; (try simp at hz4)
    have hS4 := Lib.hid (hS3.out.below hb4)
    go_wp2_with (go_at_call 34; go_in)
    refine (H4.out _ hS4.out).mono ?_; rintro e5 w5 ⟨rfl, hb5⟩; have hz5 := hb5.size; (try simp at hz5)
    go_wp2_with fail
    refine (HW.out _).mono ?_; rintro e6 w6 ⟨rfl, hb6⟩; have hz6 := hb6.size; (try simp at hz6)
    go_wp2
    go_ret
    exact ⟨rfl, by (repeat (first | exact Below.refl _ _ | (with_reducible assumption) | refine Below.drew ?_ | refine Below.drewN' ?_ _ | refine Below.alloc ?_ (by first | omega | (simp; done) | (simp; omega)) _ | refine Below.setCell ?_ (by first | omega | (simp; done) | (simp; omega)) _ | refine Below.then ?_ hb9 (by first | omega | (simp; done) | (simp; omega)) | refine Below.then ?_ hb8 (by first | omega | (simp; done) | (simp; omega)) | refine Below.then ?_ hb7 (by first | omega | (simp; done) | (simp; omega)) | refine Below.then ?_ hb6 (by first | omega | (simp; done) | (simp; omega)) | refine Below.then ?_ hb5 (by first | omega | (simp; done) | (simp; omega)) | refine Below.then ?_ hb4 (by first | omega | (simp; done) | (simp; omega)) | refine Below.then ?_ hb3 (by first | omega | (simp; done) | (simp; omega)) | refine Below.then ?_ hb2 (by first | omega | (simp; done) | (simp; omega)) | refine Below.then ?_ hb1 (by first | omega | (simp; done) | (simp; omega))))⟩

end Go.Proofs.YtcdfhceohjhogaaDoor
