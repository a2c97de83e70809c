/- The statements of layer 'head': what they share. -/
import Derived.Test.YtcdfhceohjhogaaDoorHeadSize
import Derived.Test.YtcdfhceohjhogaaDoorHeadText
import Derived.Test.YtcdfhceohjhogaaDoorWd
namespace Go.Proofs.YtcdfhceohjhogaaDoor
open Go.RowKit

theorem decS_3 : decS 3 = ⟨#[51]⟩ := by unfold decS; rw [Lib.decDigits_one (by omega)]; rfl
theorem text110 : hText 110 = ⟨#[51, 32, 103, 114, 101, 121]⟩ := by
  unfold hText
  rw [show hOk 110 = true from by decide, if_pos rfl, show hShape 110 = 3 from by decide, show hMark 110 = 1 from by decide, show (3 : Int).toNat = 3 from rfl, decS_3]
  rfl

set_option maxHeartbeats 1600000 in
theorem works04_calls (w : World) :
    Calls Tryd.prog 19 #[] w fun e w' => e = .returned (.bool true) ∧ Below w.heap.size w w' := by
  have H1 := Lib.hid (fun w => make_calls 3 1 w)
  have H2 := Lib.hid (fun w => of_calls 8 (by omega) (by omega) w)
  have H3 := Lib.hid (fun w => marked_calls 110 0 (by omega) (by omega) w)
  have H4 : Hid (∀ a c w, SlOf w a (strV [⟨#[112]⟩, ⟨#[112]⟩, ⟨#[112]⟩, ⟨#[112, 115]⟩]) → Calls Tryd.prog 24 #[.int .u64 110, .slice a 4 c] w fun e w' => e = .returned (.tuple #[.int .i64 4, .int .i64 0]) ∧ Below w.heap.size w w') :=
    Lib.hid (fun a c w h => hSize_calls 110 (by omega) (by omega) a c [⟨#[112]⟩, ⟨#[112]⟩, ⟨#[112]⟩, ⟨#[112, 115]⟩] (by decide) w h)
  have H5 : Hid (∀ a c w, SlOf w a (strV [⟨#[112]⟩]) → Calls Tryd.prog 24 #[.int .u64 110, .slice a 1 c] w fun e w' => e = .returned (.tuple #[.int .i64 0, .int .i64 130]) ∧ Below w.heap.size w w') :=
    Lib.hid (fun a c w h => hSize_calls 110 (by omega) (by omega) a c [⟨#[112]⟩] (by decide) w h)
  have H6 : Hid (∀ w, Calls Tryd.prog 26 #[.int .u64 110] w fun e w' => e = .returned (.tuple #[.string ⟨#[51, 32, 103, 114, 101, 121]⟩, .int .i64 0]) ∧ Below w.heap.size w w') :=
    Lib.hid (fun w => text110 ▸ hText_calls 110 (by omega) (by omega) w)
  rw [show hMakeW 3 1 = 110 from by decide, show hMakeE 3 1 = 0 from by decide] at H1
  rw [show hShape 8 = 0 from by decide, show hMark 8 = 0 from by decide, show hOk 8 = false from by decide] at H2
  rw [show markedW 110 0 = 102 from by decide, show markedE 110 0 = 0 from by decide] at H3
  go_enter Tryd.func19, Tryd.ntmps19
  go_wp2_with fail
  refine (H1.out _).mono ?_; rintro e1 w1 ⟨rfl, hb1⟩; obtain ⟨hc1, hf1⟩ := bcell hb1; have hz1 := hb1.size; (try simp at hz1)
  go_wp2_with fail
  refine (H2.out _).mono ?_; rintro e2 w2 ⟨rfl, hb2⟩; obtain ⟨hc2, hf2⟩ := bcell hb2; have hz2 := hb2.size; (try simp at hz2)
  go_wp2_with fail
  refine (H3.out _).mono ?_; rintro e3 w3 ⟨rfl, hb3⟩; obtain ⟨hc3, hf3⟩ := bcell hb3; have hz3 := hb3.size; (try simp at hz3)
  go_wp2_with fail
  refine (H4.out _ _ _ (by exact SlOf.new _ _ _ _)).mono ?_; rintro e4 w4 ⟨rfl, hb4⟩; obtain ⟨hc4, hf4⟩ := bcell hb4; have hz4 := hb4.size; (try simp at hz4)
  go_wp2_with fail
  refine (H5.out _ _ _ (by exact SlOf.new _ _ _ _)).mono ?_; rintro e5 w5 ⟨rfl, hb5⟩; obtain ⟨hc5, hf5⟩ := bcell hb5; have hz5 := hb5.size; (try simp at hz5)
  go_wp2_with fail
  refine (H6.out _).mono ?_; rintro e6 w6 ⟨rfl, hb6⟩; obtain ⟨hc6, hf6⟩ := bcell hb6; have hz6 := hb6.size; (try simp at hz6)
  go_wp2
  go_ret
  exact ⟨rfl, by (repeat (first | exact Below.refl _ _ | (with_reducible assumption) | refine Below.drew ?_ | refine Below.drewN' ?_ _ | refine Below.alloc ?_ (by first | omega | (simp; done) | (simp; omega)) _ | refine Below.setCell ?_ (by first | omega | (simp; done) | (simp; omega)) _ | refine Below.then ?_ hb9 (by first | omega | (simp; done) | (simp; omega)) | refine Below.then ?_ hb8 (by first | omega | (simp; done) | (simp; omega)) | refine Below.then ?_ hb7 (by first | omega | (simp; done) | (simp; omega)) | refine Below.then ?_ hb6 (by first | omega | (simp; done) | (simp; omega)) | refine Below.then ?_ hb5 (by first | omega | (simp; done) | (simp; omega)) | refine Below.then ?_ hb4 (by first | omega | (simp; done) | (simp; omega)) | refine Below.then ?_ hb3 (by first | omega | (simp; done) | (simp; omega)) | refine Below.then ?_ hb2 (by first | omega | (simp; done) | (simp; omega)) | refine Below.then ?_ hb1 (by first | omega | (simp; done) | (simp; omega))))⟩

end Go.Proofs.YtcdfhceohjhogaaDoor
