/- The layer 'head': texts of headers, by the layer and by its reference. -/
import Derived.Test.YtcdfhceohjhogaaDoorHeadRef
import Derived.Test.YtcdfhceohjhogaaDoorNum
import Derived.Test.YtcdfhceohjhogaaDoorShelf
import Derived.Deep.RegionWith
namespace Go.Proofs.YtcdfhceohjhogaaDoor
open Go.RowKit

def hText (x : Int) : ByteArray := if hOk x = true then decS (hShape x).toNat ++ ⟨#[32]⟩ ++ nameOf (hMark x) else ⟨#[]⟩
def hTextE (x : Int) : Int := if hOk x = true then 0 else 2

set_option maxHeartbeats 800000 in
theorem refHText_calls (x : Int) (h0 : 0 ≤ x) (h1 : x < 18446744073709551616) (w : World) :
    Calls Tryd.prog 27 #[.int .u64 x] w fun e w' => e = .returned (.tuple #[.string (hText x), .int .i64 (hTextE x)]) ∧ Below w.heap.size w w' := by
  have hof := fun w => refOf_calls x h0 h1 w
  cases hk : hOk x with
  | false =>
    have e1 : hText x = ⟨#[]⟩ := by simp [hText, hk]
    have e2 : hTextE x = 2 := by simp [hTextE, hk]
    rw [e1, e2]
    rw [hk] at hof
    have HO := Lib.hid hof
    clear hof hk e1 e2
    go_enter Tryd.func27, Tryd.ntmps27
    go_wp2_with fail
    refine (HO.out _).mono ?_; rintro e1 w1 ⟨rfl, hb1⟩; obtain ⟨hc1, hf1⟩ := bcell hb1; have hz1 := hb1.size; (try simp at hz1)
    go_wp2
    go_ret2
    exact ⟨rfl, by (repeat (first | exact Below.refl _ _ | (with_reducible assumption) | refine Below.drew ?_ | refine Below.drewN' ?_ _ | refine Below.alloc ?_ (by first | omega | (simp; done) | (simp; omega)) _ | refine Below.setCell ?_ (by first | omega | (simp; done) | (simp; omega)) _ | refine Below.then ?_ hb9 (by first | omega | (simp; done) | (simp; omega)) | refine Below.then ?_ hb8 (by first | omega | (simp; done) | (simp; omega)) | refine Below.then ?_ hb7 (by first | omega | (simp; done) | (simp; omega)) | refine Below.then ?_ hb6 (by first | omega | (simp; done) | (simp; omega)) | refine Below.then ?_ hb5 (by first | omega | (simp; done) | (simp; omega)) | refine Below.then ?_ hb4 (by first | omega | (simp; done) | (simp; omega)) | refine Below.then ?_ hb3 (by first | omega | (simp; done) | (simp; omega)) | refine Below.then ?_ hb2 (by first | omega | (simp; done) | (simp; omega)) | refine Below.then ?_ hb1 (by first | omega | (simp; done) | (simp; omega))))⟩
  | true =>
    have hb := hOk_bounds h0 hk
    obtain ⟨s, hs⟩ := Int.eq_ofNat_of_zero_le hb.1
    have hs16 : s < 16 := by omega
    have hm : hMark x = 0 ∨ hMark x = 1 ∨ hMark x = 2 := by omega
    have e1 : hText x = decS s ++ ⟨#[32]⟩ ++ nameOf (hMark x) := by simp [hText, hk, hs]
    have e2 : hTextE x = 0 := by simp [hTextE, hk]
    rw [e1, e2]
    rw [hk, hs] at hof
    have HN := Lib.hid (fun w => number_calls s (by omega) (by omega) w)
    have HS := Lib.hid (numS_pos (n := s))
    have hsz := decS_size s (by omega)
    clear e1 e2 hb hk hs
    have hms : (nameOf (hMark x)).size ≤ 5 := by rcases hm with h | h | h <;> rw [h] <;> decide
    obtain ⟨m, hm'⟩ : ∃ m, hMark x = m := ⟨_, rfl⟩
    rw [hm'] at hof hm hms ⊢
    have HO := Lib.hid hof
    have HM := Lib.hid (fun w => refName_calls m w)
    clear hof hm hm'
    have hA : ¬ 9223372036854775807 < (decS s).size + 1 := by omega
    have hB : ¬ 9223372036854775807 < (decS s).size + 1 + (nameOf m).size := by omega
    rw [HS.out] at HN
    clear HS
    go_enter Tryd.func27, Tryd.ntmps27
    go_wp2_with fail
    refine (HO.out _).mono ?_; rintro e1 w1 ⟨rfl, hb1⟩; obtain ⟨hc1, hf1⟩ := bcell hb1; have hz1 := hb1.size; (try simp at hz1)
    go_wp2_with fail
    go_region_with (first | (go_at_call 55; refine (HN.out _).mono ?_; rintro e2 w2 ⟨rfl, hb2⟩; obtain ⟨hc2, hf2⟩ := bcell hb2; have hz2 := hb2.size; (try simp at hz2)) | (go_at_call 29; refine (HM.out _).mono ?_; rintro e3 w3 ⟨rfl, hb3⟩; obtain ⟨hc3, hf3⟩ := bcell hb3; have hz3 := hb3.size; (try simp at hz3)))
    all_goals
      go_wp2
      go_ret2
      exact ⟨rfl, by (repeat (first | exact Below.refl _ _ | (with_reducible assumption) | refine Below.drew ?_ | refine Below.drewN' ?_ _ | refine Below.alloc ?_ (by first | omega | (simp; done) | (simp; omega)) _ | refine Below.setCell ?_ (by first | omega | (simp; done) | (simp; omega)) _ | refine Below.then ?_ hb9 (by first | omega | (simp; done) | (simp; omega)) | refine Below.then ?_ hb8 (by first | omega | (simp; done) | (simp; omega)) | refine Below.then ?_ hb7 (by first | omega | (simp; done) | (simp; omega)) | refine Below.then ?_ hb6 (by first | omega | (simp; done) | (simp; omega)) | refine Below.then ?_ hb5 (by first | omega | (simp; done) | (simp; omega)) | refine Below.then ?_ hb4 (by first | omega | (simp; done) | (simp; omega)) | refine Below.then ?_ hb3 (by first | omega | (simp; done) | (simp; omega)) | refine Below.then ?_ hb2 (by first | omega | (simp; done) | (simp; omega)) | refine Below.then ?_ hb1 (by first | omega | (simp; done) | (simp; omega))))⟩

theorem index_names (m : Int) (hm : m = 0 ∨ m = 1 ∨ m = 2) (W : World) :
    (Instr.index 91 (.agg #[.string ⟨#[119, 104, 105, 116, 101]⟩, .string ⟨#[103, 114, 101, 121]⟩, .string ⟨#[98, 108, 97, 99, 107]⟩]) (.int .i64 m)).run Tryd.prog W = .ok (.string (nameOf m)) W := by
  rcases hm with rfl | rfl | rfl
  · kernel_rfl
  · kernel_rfl
  · kernel_rfl

set_option maxRecDepth 100000 in
set_option maxHeartbeats 800000 in
theorem hText_calls (x : Int) (h0 : 0 ≤ x) (h1 : x < 18446744073709551616) (w : World) :
    Calls Tryd.prog 26 #[.int .u64 x] w fun e w' => e = .returned (.tuple #[.string (hText x), .int .i64 (hTextE x)]) ∧ Below w.heap.size w w' := by
  have hof := fun w => of_calls x h0 h1 w
  cases hk : hOk x with
  | false =>
    have e1 : hText x = ⟨#[]⟩ := by simp [hText, hk]
    have e2 : hTextE x = 2 := by simp [hTextE, hk]
    rw [e1, e2]
    rw [hk] at hof
    have HO := Lib.hid hof
    clear hof hk e1 e2
    go_enter Tryd.func26, Tryd.ntmps26
    go_wp2_with fail
    refine (HO.out _).mono ?_; rintro e1 w1 ⟨rfl, hb1⟩; obtain ⟨hc1, hf1⟩ := bcell hb1; have hz1 := hb1.size; (try simp at hz1)
    go_wp2
    go_ret2
    exact ⟨rfl, by (repeat (first | exact Below.refl _ _ | (with_reducible assumption) | refine Below.drew ?_ | refine Below.drewN' ?_ _ | refine Below.alloc ?_ (by first | omega | (simp; done) | (simp; omega)) _ | refine Below.setCell ?_ (by first | omega | (simp; done) | (simp; omega)) _ | refine Below.then ?_ hb9 (by first | omega | (simp; done) | (simp; omega)) | refine Below.then ?_ hb8 (by first | omega | (simp; done) | (simp; omega)) | refine Below.then ?_ hb7 (by first | omega | (simp; done) | (simp; omega)) | refine Below.then ?_ hb6 (by first | omega | (simp; done) | (simp; omega)) | refine Below.then ?_ hb5 (by first | omega | (simp; done) | (simp; omega)) | refine Below.then ?_ hb4 (by first | omega | (simp; done) | (simp; omega)) | refine Below.then ?_ hb3 (by first | omega | (simp; done) | (simp; omega)) | refine Below.then ?_ hb2 (by first | omega | (simp; done) | (simp; omega)) | refine Below.then ?_ hb1 (by first | omega | (simp; done) | (simp; omega))))⟩
  | true =>
    have hb := hOk_bounds h0 hk
    obtain ⟨s, hs⟩ := Int.eq_ofNat_of_zero_le hb.1
    have hs16 : s < 16 := by omega
    have hm : hMark x = 0 ∨ hMark x = 1 ∨ hMark x = 2 := by omega
    have e1 : hText x = decS s ++ ⟨#[32]⟩ ++ nameOf (hMark x) := by simp [hText, hk, hs]
    have e2 : hTextE x = 0 := by simp [hTextE, hk]
    rw [e1, e2]
    rw [hk, hs] at hof
    have HN := Lib.hid (fun w => Tryd.strconv_Itoa_small s (by omega) w)
    have hsz := decS_size s (by omega)
    clear e1 e2 hb hk hs
    have hms : (nameOf (hMark x)).size ≤ 5 := by rcases hm with h | h | h <;> rw [h] <;> decide
    obtain ⟨m, hm'⟩ : ∃ m, hMark x = m := ⟨_, rfl⟩
    rw [hm'] at hof hm hms ⊢
    have HO := Lib.hid hof
    have hix := index_names m hm
    clear hof hm hm'
    have hA : ¬ 9223372036854775807 < (decS s).size + 1 := by omega
    have hB : ¬ 9223372036854775807 < (decS s).size + 1 + (nameOf m).size := by omega
    go_enter Tryd.func26, Tryd.ntmps26
    go_wp2_with fail
    refine (HO.out _).mono ?_; rintro e1 w1 ⟨rfl, hb1⟩; obtain ⟨hc1, hf1⟩ := bcell hb1; have hz1 := hb1.size; (try simp at hz1)
    go_wp2_with fail
    go_region_with (first | (go_at_call 53; refine (HN.out _).mono ?_; rintro e2 w2 ⟨rfl, rfl⟩; rw [show (⟨(Lib.decDigits s).toArray⟩ : ByteArray) = decS s from rfl]) | (go_at_call 54; refine (names_calls _).mono ?_; rintro e3 w3 ⟨rfl, hb3⟩; obtain ⟨hc3, hf3⟩ := bcell hb3; have hz3 := hb3.size; (try simp at hz3)))
    all_goals
      go_wp2
      go_ret2
      exact ⟨rfl, by (repeat (first | exact Below.refl _ _ | (with_reducible assumption) | refine Below.drew ?_ | refine Below.drewN' ?_ _ | refine Below.alloc ?_ (by first | omega | (simp; done) | (simp; omega)) _ | refine Below.setCell ?_ (by first | omega | (simp; done) | (simp; omega)) _ | refine Below.then ?_ hb9 (by first | omega | (simp; done) | (simp; omega)) | refine Below.then ?_ hb8 (by first | omega | (simp; done) | (simp; omega)) | refine Below.then ?_ hb7 (by first | omega | (simp; done) | (simp; omega)) | refine Below.then ?_ hb6 (by first | omega | (simp; done) | (simp; omega)) | refine Below.then ?_ hb5 (by first | omega | (simp; done) | (simp; omega)) | refine Below.then ?_ hb4 (by first | omega | (simp; done) | (simp; omega)) | refine Below.then ?_ hb3 (by first | omega | (simp; done) | (simp; omega)) | refine Below.then ?_ hb2 (by first | omega | (simp; done) | (simp; omega)) | refine Below.then ?_ hb1 (by first | omega | (simp; done) | (simp; omega))))⟩

end Go.Proofs.YtcdfhceohjhogaaDoor
