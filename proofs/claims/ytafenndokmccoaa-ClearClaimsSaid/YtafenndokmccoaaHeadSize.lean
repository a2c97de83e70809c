/- The layer 'head' over tables: sizes of objects, by the layer and by its reference. -/
import Derived.Test.YtafenndokmccoaaHeadRef
import Derived.Test.YtafenndokmccoaaShapeRef
namespace Go.Proofs.Ytafenndokmccoaa
open Go.RowKit
set_option linter.unusedVariables false
set_option linter.unusedSimpArgs false

def hSizeN (x : Int) (ss : List ByteArray) : Int := if hOk x = true then sizeN ss (hShape x) else 0
def hSizeE (x : Int) (ss : List ByteArray) : Int := if hOk x = true then ofE ss (hShape x) else 2

set_option maxHeartbeats 800000 in
theorem hSize_calls (x : Int) (h0 : 0 ≤ x) (h1 : x < 18446744073709551616) (a : Option Addr) (c : Nat) (ss : List ByteArray) (hn : ss.length ≤ maxLen) (w : World) (h : SlOf w a (strV ss)) :
    Calls Try.prog 106 #[.int .u64 x, .slice a ss.length c] w fun e w' => e = .returned (.tuple #[.int .i64 (hSizeN x ss), .int .i64 (hSizeE x ss)]) ∧ Below w.heap.size w w' := by
  have HS := Lib.hid h
  have hof := fun w => of_calls x h0 h1 w
  have HZ := Lib.hid (fun w h => shSize_calls a c ss (hShape x) hn w h)
  clear h
  cases hk : hOk x with
  | false =>
    have e1 : hSizeN x ss = 0 := by simp [hSizeN, hk]
    have e2 : hSizeE x ss = 2 := by simp [hSizeE, hk]
    rw [e1, e2]
    rw [hk] at hof
    have HO := Lib.hid hof
    clear hof hk e1 e2
    go_enter Try.func106, Try.ntmps106
    go_wp2_with fail
    refine (HO.out _).mono ?_; rintro e1 w1 ⟨rfl, hb1⟩; obtain ⟨hc1, hf1⟩ := bcell hb1; have hz1 := hb1.size; (try simp at hz1)
    go_wp2
    go_ret2
    exact ⟨rfl, by (repeat (first | exact Below.refl _ _ | (with_reducible assumption) | refine Below.drew ?_ | refine Below.drewN' ?_ _ | refine Below.alloc ?_ (by first | omega | (simp; done) | (simp; omega)) _ | refine Below.setCell ?_ (by first | omega | (simp; done) | (simp; omega)) _ | refine Below.then ?_ hb9 (by first | omega | (simp; done) | (simp; omega)) | refine Below.then ?_ hb8 (by first | omega | (simp; done) | (simp; omega)) | refine Below.then ?_ hb7 (by first | omega | (simp; done) | (simp; omega)) | refine Below.then ?_ hb6 (by first | omega | (simp; done) | (simp; omega)) | refine Below.then ?_ hb5 (by first | omega | (simp; done) | (simp; omega)) | refine Below.then ?_ hb4 (by first | omega | (simp; done) | (simp; omega)) | refine Below.then ?_ hb3 (by first | omega | (simp; done) | (simp; omega)) | refine Below.then ?_ hb2 (by first | omega | (simp; done) | (simp; omega)) | refine Below.then ?_ hb1 (by first | omega | (simp; done) | (simp; omega))))⟩
  | true =>
    have e1 : hSizeN x ss = sizeN ss (hShape x) := by simp [hSizeN, hk]
    have e2 : hSizeE x ss = ofE ss (hShape x) := by simp [hSizeE, hk]
    rw [e1, e2]
    rw [hk] at hof
    have HO := Lib.hid hof
    clear hof hk e1 e2
    go_enter Try.func106, Try.ntmps106
    go_wp2_with fail
    refine (HO.out _).mono ?_; rintro e1 w1 ⟨rfl, hb1⟩; obtain ⟨hc1, hf1⟩ := bcell hb1; have hz1 := hb1.size; (try simp at hz1)
    go_wp2_with fail
    refine (HZ.out _ (by exact SlOf.alloc (HS.out.below hb1) _)).mono ?_; rintro e2 w2 ⟨rfl, hb2⟩; obtain ⟨hc2, hf2⟩ := bcell hb2; have hz2 := hb2.size; (try simp at hz2)
    go_wp2
    go_ret2
    exact ⟨rfl, by (repeat (first | exact Below.refl _ _ | (with_reducible assumption) | refine Below.drew ?_ | refine Below.drewN' ?_ _ | refine Below.alloc ?_ (by first | omega | (simp; done) | (simp; omega)) _ | refine Below.setCell ?_ (by first | omega | (simp; done) | (simp; omega)) _ | refine Below.then ?_ hb9 (by first | omega | (simp; done) | (simp; omega)) | refine Below.then ?_ hb8 (by first | omega | (simp; done) | (simp; omega)) | refine Below.then ?_ hb7 (by first | omega | (simp; done) | (simp; omega)) | refine Below.then ?_ hb6 (by first | omega | (simp; done) | (simp; omega)) | refine Below.then ?_ hb5 (by first | omega | (simp; done) | (simp; omega)) | refine Below.then ?_ hb4 (by first | omega | (simp; done) | (simp; omega)) | refine Below.then ?_ hb3 (by first | omega | (simp; done) | (simp; omega)) | refine Below.then ?_ hb2 (by first | omega | (simp; done) | (simp; omega)) | refine Below.then ?_ hb1 (by first | omega | (simp; done) | (simp; omega))))⟩

set_option maxHeartbeats 800000 in
theorem refHSize_calls (x : Int) (h0 : 0 ≤ x) (h1 : x < 18446744073709551616) (a : Option Addr) (c : Nat) (ss : List ByteArray) (hn : Fit ss) (w : World) (h : SlOf w a (strV ss)) :
    Calls Try.prog 86 #[.int .u64 x, .slice a ss.length c] w fun e w' => e = .returned (.tuple #[.int .i64 (hSizeN x ss), .int .i64 (hSizeE x ss)]) ∧ Below w.heap.size w w' := by
  have HS := Lib.hid h
  have hof := fun w => refOf_calls x h0 h1 w
  have HZ := Lib.hid (fun w h => refSize_calls a c ss (hShape x) hn w h)
  clear h
  cases hk : hOk x with
  | false =>
    have e1 : hSizeN x ss = 0 := by simp [hSizeN, hk]
    have e2 : hSizeE x ss = 2 := by simp [hSizeE, hk]
    rw [e1, e2]
    rw [hk] at hof
    have HO := Lib.hid hof
    clear hof hk e1 e2
    go_enter Try.func86, Try.ntmps86
    go_wp2_with fail
    refine (HO.out _).mono ?_; rintro e1 w1 ⟨rfl, hb1⟩; obtain ⟨hc1, hf1⟩ := bcell hb1; have hz1 := hb1.size; (try simp at hz1)
    go_wp2
    go_ret2
    exact ⟨rfl, by (repeat (first | exact Below.refl _ _ | (with_reducible assumption) | refine Below.drew ?_ | refine Below.drewN' ?_ _ | refine Below.alloc ?_ (by first | omega | (simp; done) | (simp; omega)) _ | refine Below.setCell ?_ (by first | omega | (simp; done) | (simp; omega)) _ | refine Below.then ?_ hb9 (by first | omega | (simp; done) | (simp; omega)) | refine Below.then ?_ hb8 (by first | omega | (simp; done) | (simp; omega)) | refine Below.then ?_ hb7 (by first | omega | (simp; done) | (simp; omega)) | refine Below.then ?_ hb6 (by first | omega | (simp; done) | (simp; omega)) | refine Below.then ?_ hb5 (by first | omega | (simp; done) | (simp; omega)) | refine Below.then ?_ hb4 (by first | omega | (simp; done) | (simp; omega)) | refine Below.then ?_ hb3 (by first | omega | (simp; done) | (simp; omega)) | refine Below.then ?_ hb2 (by first | omega | (simp; done) | (simp; omega)) | refine Below.then ?_ hb1 (by first | omega | (simp; done) | (simp; omega))))⟩
  | true =>
    have e1 : hSizeN x ss = sizeN ss (hShape x) := by simp [hSizeN, hk]
    have e2 : hSizeE x ss = ofE ss (hShape x) := by simp [hSizeE, hk]
    rw [e1, e2]
    rw [hk] at hof
    have HO := Lib.hid hof
    clear hof hk e1 e2
    go_enter Try.func86, Try.ntmps86
    go_wp2_with fail
    refine (HO.out _).mono ?_; rintro e1 w1 ⟨rfl, hb1⟩; obtain ⟨hc1, hf1⟩ := bcell hb1; have hz1 := hb1.size; (try simp at hz1)
    go_wp2_with fail
    refine (HZ.out _ (by exact SlOf.alloc (HS.out.below hb1) _)).mono ?_; rintro e2 w2 ⟨rfl, hb2⟩; obtain ⟨hc2, hf2⟩ := bcell hb2; have hz2 := hb2.size; (try simp at hz2)
    go_wp2
    go_ret2
    exact ⟨rfl, by (repeat (first | exact Below.refl _ _ | (with_reducible assumption) | refine Below.drew ?_ | refine Below.drewN' ?_ _ | refine Below.alloc ?_ (by first | omega | (simp; done) | (simp; omega)) _ | refine Below.setCell ?_ (by first | omega | (simp; done) | (simp; omega)) _ | refine Below.then ?_ hb9 (by first | omega | (simp; done) | (simp; omega)) | refine Below.then ?_ hb8 (by first | omega | (simp; done) | (simp; omega)) | refine Below.then ?_ hb7 (by first | omega | (simp; done) | (simp; omega)) | refine Below.then ?_ hb6 (by first | omega | (simp; done) | (simp; omega)) | refine Below.then ?_ hb5 (by first | omega | (simp; done) | (simp; omega)) | refine Below.then ?_ hb4 (by first | omega | (simp; done) | (simp; omega)) | refine Below.then ?_ hb3 (by first | omega | (simp; done) | (simp; omega)) | refine Below.then ?_ hb2 (by first | omega | (simp; done) | (simp; omega)) | refine Below.then ?_ hb1 (by first | omega | (simp; done) | (simp; omega))))⟩

end Go.Proofs.Ytafenndokmccoaa
