/- The laws of layer 'object': the chapter's rows hold. -/
import Derived.Test.YtiodkcecpnomcaaObjM
import Derived.Test.YtiodkcecpnomcaaPut3
import Derived.Test.YtiodkcecpnomcaaStartH
namespace Go.Proofs.Ytiodkcecpnomcaa
open Go.RowKit
set_option linter.unusedVariables false
set_option linter.unusedSimpArgs false

/-- the chapter's plan and its words -/
def ssK : List ByteArray := [⟨#[112]⟩, ⟨#[115, 115]⟩]
def startK : List Int := (((List.replicate 69 0).set 1 (2 * (3 + 8192 * 32))).set 5 6)
def putK : List Int := putTo startK 5 [hWord 1 0, 0, 4, 12] 4
theorem planK : planB 1 32 ssK = true := by decide +kernel
theorem startK_f : startW 1 32 ssK = startK := by decide +kernel
theorem putK_e : putE 1 32 ssK startK.length 5 1 0 2 = 0 := by decide +kernel
theorem putK_l : putL 1 32 ssK startK 5 1 0 0 [4, 12] = putK := by decide +kernel
theorem readK5 : objE 1 32 ssK putK 5 = 0 ∧ rdS 1 32 ssK putK 5 = 1 ∧ rdM 1 32 ssK putK 5 = 0 ∧ (rdF 1 32 ssK putK 5).length = 2 := by decide +kernel
theorem readK6 : objE 1 32 ssK putK 6 = 170 := by decide +kernel
theorem placK : placN 1 32 ssK putK 5 1 = 8 ∧ placE 1 32 ssK putK 5 1 = 0 := by decide +kernel
theorem walkK0 : walkE 1 32 ssK putK.length 0 0 32 = 0 ∧ walkR 1 32 ssK putK 0 0 32 = [5] := by decide +kernel
theorem walkK1 : walkE 1 32 ssK putK.length 0 1 32 = 0 ∧ walkR 1 32 ssK putK 0 1 32 = [] := by decide +kernel
theorem startK_rng : ∀ x ∈ startK, 0 ≤ x ∧ x < 18446744073709551616 := by decide +kernel
theorem ssK_fit : Fit ssK := by
  refine ⟨by decide +kernel, ?_⟩
  decide +kernel

theorem SlOf.row {W : World} {a : Option Addr} {vs : List Value} {b : Nat} {r : Array Value} (h : SlOf W a vs) (ha : ∀ ad, a = some ad → ad.block ≠ b) : SlOf (W.setRow b r) a vs := by
  rcases h with h | ⟨b', o, rfl, hb, hc⟩
  · exact .inl h
  · exact .inr ⟨b', o, rfl, by simpa using hb, fun i hi => (cell_setRow_other W b r ⟨b', o + i, none⟩ (show b' ≠ b from ha ⟨b', o, none⟩ rfl)).trans (hc i hi)⟩

set_option maxRecDepth 1000000 in
set_option maxHeartbeats 6400000 in
theorem works7_calls (w : World) : Calls Try.prog 12 #[] w fun e w' => e = .returned (.bool true) ∧ Below w.heap.size w w' := by
  have ST := fun A c W h => startH_calls 1 32 A c ssK planK W h
  rw [startK_f] at ST
  have ST := Lib.hid ST
  have OF := Lib.hid (fun a c W h => arOf_calls a c startK (by decide) (by decide) startK_rng W h)
  have PT := fun p b a c fa fc hfn W h hs hw => put_calls p b startK 1 32 a c ssK 5 1 0 0 fa fc [4, 12] (by decide) (by decide) (by decide) (by decide) hfn W h hs hw
  unfold PutPost objV at PT
  simp only [putK_e, putK_l, show ([4, 12] : List Int).length = 2 from rfl] at PT
  have PT := Lib.hid PT
  have R5 := fun p b a c W h hs => read_calls p b putK 1 32 a c ssK 5 (by decide) W h hs
  have R6 := fun p b a c W h hs => read_calls p b putK 1 32 a c ssK 6 (by decide) W h hs
  obtain ⟨f1, f2, f3, f4, f5⟩ := rd_no readK6 (by decide)
  unfold ReadPost objV at R5 R6
  simp only [readK5.1, readK5.2.1, readK5.2.2.1, readK5.2.2.2] at R5
  simp only [readK6, f1, f2, f3, f4, f5] at R6
  have PL := fun p b a c W h hs => place_calls p b putK 1 32 a c ssK 5 1 (by decide) W h hs
  simp only [placK.1, placK.2] at PL
  have WA := fun p b a c W h hs => walk_calls p b putK 1 32 a c ssK 0 0 32 (by decide) W h hs
  have WB := fun p b a c W h hs => walk_calls p b putK 1 32 a c ssK 0 1 32 (by decide) W h hs
  unfold WalkPost at WA WB
  simp only [walkK0.1, walkK0.2] at WA
  simp only [walkK1.1, walkK1.2] at WB
  have R5 := Lib.hid R5
  have R6 := Lib.hid R6
  have PL := Lib.hid PL
  have WA := Lib.hid WA
  have WB := Lib.hid WB
  clear f1 f2 f3 f4 f5
  go_enter Try.func12, Try.ntmps12
  go_wp2_with fail
  have SL : SlOf ((w.alloc (.cells #[.string ⟨#[112]⟩, .string ⟨#[115, 115]⟩] 73)).alloc (.cells #[.int .i64 1, .int .i64 32, .slice (some ⟨w.heap.size, 0, none⟩) 2 2] 24)) (some ⟨w.heap.size, 0, none⟩) (strV ssK) := (SlOf.new w (strV ssK) 73 (0, 0)).alloc _
  refine (ST.out _ 2 _ SL).mono ?_
  rintro e1 w1 ⟨g1, rfl, hR1, hg1, hb1⟩
  have hw1 := hR1.wds
  obtain ⟨hc1, hf1⟩ := bcell hb1
  have hz1 := hb1.size
  (try simp at hz1)
  have q0 := hc1 (w.heap.size + 1) 0 (by first | omega | (simp; done) | (simp; omega)); simp [go_sem] at q0
  have q1 := hc1 (w.heap.size + 1) 1 (by first | omega | (simp; done) | (simp; omega)); simp [go_sem] at q1
  have q2 := hc1 (w.heap.size + 1) 2 (by first | omega | (simp; done) | (simp; omega)); simp [go_sem] at q2
  have hb01 : Below w.heap.size w w1 := by (repeat (first | exact Below.refl _ _ | (with_reducible assumption) | refine Below.drew ?_ | refine Below.drewN' ?_ _ | refine Below.alloc ?_ (by first | omega | (simp; done) | (simp; omega)) _ | refine Below.setCell ?_ (by first | omega | (simp; done) | (simp; omega)) _ | refine Below.then ?_ hb9 (by first | omega | (simp; done) | (simp; omega)) | refine Below.then ?_ hb8 (by first | omega | (simp; done) | (simp; omega)) | refine Below.then ?_ hb7 (by first | omega | (simp; done) | (simp; omega)) | refine Below.then ?_ hb6 (by first | omega | (simp; done) | (simp; omega)) | refine Below.then ?_ hb5 (by first | omega | (simp; done) | (simp; omega)) | refine Below.then ?_ hb4 (by first | omega | (simp; done) | (simp; omega)) | refine Below.then ?_ hb3 (by first | omega | (simp; done) | (simp; omega)) | refine Below.then ?_ hb2 (by first | omega | (simp; done) | (simp; omega)) | refine Below.then ?_ hb1 (by first | omega | (simp; done) | (simp; omega))))
  replace SL := SL.below hb1
  clear hc1 hf1 hR1 hb1 ST
  go_wp2_with fail
  refine (OF.out _ startK.length _ hw1).mono ?_
  rintro e2 w2 ⟨rfl, ha2, hb2⟩
  have hz2 := hb2.size
  replace SL := SL.below hb2
  replace q0 := hold_cell (w2 := w2) q0 (by (repeat (first | exact Below.refl _ _ | (with_reducible assumption) | refine Below.drew ?_ | refine Below.drewN' ?_ _ | refine Below.alloc ?_ (by first | omega | (simp; done) | (simp; omega)) _ | refine Below.setCell ?_ (by first | omega | (simp; done) | (simp; omega)) _ | refine Below.then ?_ hb9 (by first | omega | (simp; done) | (simp; omega)) | refine Below.then ?_ hb8 (by first | omega | (simp; done) | (simp; omega)) | refine Below.then ?_ hb7 (by first | omega | (simp; done) | (simp; omega)) | refine Below.then ?_ hb6 (by first | omega | (simp; done) | (simp; omega)) | refine Below.then ?_ hb5 (by first | omega | (simp; done) | (simp; omega)) | refine Below.then ?_ hb4 (by first | omega | (simp; done) | (simp; omega)) | refine Below.then ?_ hb3 (by first | omega | (simp; done) | (simp; omega)) | refine Below.then ?_ hb2 (by first | omega | (simp; done) | (simp; omega)) | refine Below.then ?_ hb1 (by first | omega | (simp; done) | (simp; omega))))) (by first | omega | (simp; done) | (simp; omega))
  replace q1 := hold_cell (w2 := w2) q1 (by (repeat (first | exact Below.refl _ _ | (with_reducible assumption) | refine Below.drew ?_ | refine Below.drewN' ?_ _ | refine Below.alloc ?_ (by first | omega | (simp; done) | (simp; omega)) _ | refine Below.setCell ?_ (by first | omega | (simp; done) | (simp; omega)) _ | refine Below.then ?_ hb9 (by first | omega | (simp; done) | (simp; omega)) | refine Below.then ?_ hb8 (by first | omega | (simp; done) | (simp; omega)) | refine Below.then ?_ hb7 (by first | omega | (simp; done) | (simp; omega)) | refine Below.then ?_ hb6 (by first | omega | (simp; done) | (simp; omega)) | refine Below.then ?_ hb5 (by first | omega | (simp; done) | (simp; omega)) | refine Below.then ?_ hb4 (by first | omega | (simp; done) | (simp; omega)) | refine Below.then ?_ hb3 (by first | omega | (simp; done) | (simp; omega)) | refine Below.then ?_ hb2 (by first | omega | (simp; done) | (simp; omega)) | refine Below.then ?_ hb1 (by first | omega | (simp; done) | (simp; omega))))) (by first | omega | (simp; done) | (simp; omega))
  replace q2 := hold_cell (w2 := w2) q2 (by (repeat (first | exact Below.refl _ _ | (with_reducible assumption) | refine Below.drew ?_ | refine Below.drewN' ?_ _ | refine Below.alloc ?_ (by first | omega | (simp; done) | (simp; omega)) _ | refine Below.setCell ?_ (by first | omega | (simp; done) | (simp; omega)) _ | refine Below.then ?_ hb9 (by first | omega | (simp; done) | (simp; omega)) | refine Below.then ?_ hb8 (by first | omega | (simp; done) | (simp; omega)) | refine Below.then ?_ hb7 (by first | omega | (simp; done) | (simp; omega)) | refine Below.then ?_ hb6 (by first | omega | (simp; done) | (simp; omega)) | refine Below.then ?_ hb5 (by first | omega | (simp; done) | (simp; omega)) | refine Below.then ?_ hb4 (by first | omega | (simp; done) | (simp; omega)) | refine Below.then ?_ hb3 (by first | omega | (simp; done) | (simp; omega)) | refine Below.then ?_ hb2 (by first | omega | (simp; done) | (simp; omega)) | refine Below.then ?_ hb1 (by first | omega | (simp; done) | (simp; omega))))) (by first | omega | (simp; done) | (simp; omega))
  have hb02 : Below w.heap.size w w2 := Below.then hb01 hb2 (by omega)
  have l2 : w.heap.size + 1 < w2.heap.size := by first | omega | (simp; done) | (simp; omega)
  have lp2 := ha2.pb
  clear hb2 hw1 OF
  go_wp2_with fail
  refine (PT.out _ _ (some ⟨w.heap.size, 0, none⟩) 2 (some ⟨w2.heap.size, 0, none⟩) 2 (by intro h; cases h) _ (ha2.alloc _) (SL.alloc _) (SlOf.new w2 [.int .u64 4, .int .u64 12] 50 (0, 0))).mono ?_
  rintro e3 w3 ⟨rfl, ha3, hb3⟩
  have hz3 := hb3.size
  (try simp at hz3)
  have hsr : ∀ r, ((w2.alloc (.cells #[.int .u64 4, .int .u64 12] 50)).setRow w1.heap.size r).heap.size = w2.heap.size + 1 := fun r => by simp
  have SL3 : SlOf w3 (some ⟨w.heap.size, 0, none⟩) (strV ssK) := (SlOf.row (SL.alloc _) (fun ad e => by injection e with e; subst e; show w.heap.size ≠ w1.heap.size; omega)).below (by rw [setRow_size]; exact hb3)
  have q' : ∀ j, w3.cell? ⟨w.heap.size + 1, j, none⟩ = w2.cell? ⟨w.heap.size + 1, j, none⟩ := fun j => (hb3.cell (p := ⟨w.heap.size + 1, j, none⟩) (by simp; omega)).trans ((cell_setRow_other _ _ _ _ (by show w.heap.size + 1 ≠ w1.heap.size; omega)).trans (((Below.refl w2.heap.size w2).alloc (Nat.le_refl _) _).cell (p := ⟨w.heap.size + 1, j, none⟩) l2))
  replace q0 := (q' 0).trans q0
  replace q1 := (q' 1).trans q1
  replace q2 := (q' 2).trans q2
  have hb03 : Below w.heap.size w w3 := (below_setRow (hb02.alloc (by omega) _) (show w.heap.size ≤ w1.heap.size by omega) _).trans (hb3.mono (by simp; omega))
  have l3 : w.heap.size + 1 < w3.heap.size := by first | omega | (simp; done) | (simp; omega)
  clear q' hb3 hsr ha2 SL PT
  go_wp2_with fail
  refine (R5.out _ _ (some ⟨w.heap.size, 0, none⟩) 2 _ ha3 SL3).mono ?_
  rintro e4 w4 ⟨fa4, fc4, rfl, hw4, -, hb4⟩
  have hb34 : Below w3.heap.size w3 w4 := hb4
  have hz4 := hb34.size
  replace q0 := (hb34.cell (p := ⟨w.heap.size + 1, 0, none⟩) (by show w.heap.size + 1 < _; omega)).trans q0
  replace q1 := (hb34.cell (p := ⟨w.heap.size + 1, 1, none⟩) (by show w.heap.size + 1 < _; omega)).trans q1
  replace q2 := (hb34.cell (p := ⟨w.heap.size + 1, 2, none⟩) (by show w.heap.size + 1 < _; omega)).trans q2
  have ha4 := ha3.below hb34
  have SL4 := SL3.below hb34
  have hb04 : Below w.heap.size w w4 := Below.then hb03 hb34 (by omega)
  have lt4 : w.heap.size + 1 < w4.heap.size := by first | omega | (simp; done) | (simp; omega)
  go_wp2_with fail
  refine (R6.out _ _ (some ⟨w.heap.size, 0, none⟩) 2 _ (ha4.alloc _) (SL4.alloc _)).mono ?_
  rintro e5 w5 ⟨fa5, fc5, rfl, hw5, -, hb5⟩
  obtain ⟨hc5, -⟩ := bcell hb5
  have hz5' := hb5.size
  (try simp at hz5')
  have x1 := hc5 w4.heap.size 1 (by first | omega | (simp; done) | (simp; omega)); simp [go_sem] at x1
  have x4 := hc5 w4.heap.size 4 (by first | omega | (simp; done) | (simp; omega)); simp [go_sem] at x4
  clear hc5
  have hb45 : Below w4.heap.size w4 w5 := ((Below.refl _ _).alloc (Nat.le_refl _) _).trans (hb5.mono (by simp))
  have hz5 := hb45.size
  replace q0 := (hb45.cell (p := ⟨w.heap.size + 1, 0, none⟩) (by show w.heap.size + 1 < _; omega)).trans q0
  replace q1 := (hb45.cell (p := ⟨w.heap.size + 1, 1, none⟩) (by show w.heap.size + 1 < _; omega)).trans q1
  replace q2 := (hb45.cell (p := ⟨w.heap.size + 1, 2, none⟩) (by show w.heap.size + 1 < _; omega)).trans q2
  have ha5 := ha4.below hb45
  have SL5 := SL4.below hb45
  have hb05 : Below w.heap.size w w5 := Below.then hb04 hb45 (by omega)
  have lt5 : w.heap.size + 1 < w5.heap.size := by first | omega | (simp; done) | (simp; omega)
  have lu5 : w4.heap.size < w5.heap.size := by first | omega | (simp; done) | (simp; omega)
  go_wp2_with fail
  refine (PL.out _ _ (some ⟨w.heap.size, 0, none⟩) 2 _ (ha5.alloc _) (SL5.alloc _)).mono ?_
  rintro e6 w6 ⟨rfl, hb6⟩
  have hb56 : Below w5.heap.size w5 w6 := ((Below.refl _ _).alloc (Nat.le_refl _) _).trans (hb6.mono (by simp))
  have hz6 := hb56.size
  replace q0 := (hb56.cell (p := ⟨w.heap.size + 1, 0, none⟩) (by show w.heap.size + 1 < _; omega)).trans q0
  replace q1 := (hb56.cell (p := ⟨w.heap.size + 1, 1, none⟩) (by show w.heap.size + 1 < _; omega)).trans q1
  replace q2 := (hb56.cell (p := ⟨w.heap.size + 1, 2, none⟩) (by show w.heap.size + 1 < _; omega)).trans q2
  replace x1 := (hb56.cell (p := ⟨w4.heap.size, 1, none⟩) (by show w4.heap.size < _; omega)).trans x1
  replace x4 := (hb56.cell (p := ⟨w4.heap.size, 4, none⟩) (by show w4.heap.size < _; omega)).trans x4
  have ha6 := ha5.below hb56
  have SL6 := SL5.below hb56
  have hb06 : Below w.heap.size w w6 := Below.then hb05 hb56 (by omega)
  have lt6 : w.heap.size + 1 < w6.heap.size := by first | omega | (simp; done) | (simp; omega)
  have lu6 : w4.heap.size < w6.heap.size := by first | omega | (simp; done) | (simp; omega)
  go_wp2_with fail
  refine (WA.out _ _ (some ⟨w.heap.size, 0, none⟩) 2 _ ha6 SL6).mono ?_
  rintro e7 w7 ⟨fa7, fc7, rfl, hw7, hb7⟩
  have hb67 : Below w6.heap.size w6 w7 := hb7
  have hz7 := hb67.size
  replace q0 := (hb67.cell (p := ⟨w.heap.size + 1, 0, none⟩) (by show w.heap.size + 1 < _; omega)).trans q0
  replace q1 := (hb67.cell (p := ⟨w.heap.size + 1, 1, none⟩) (by show w.heap.size + 1 < _; omega)).trans q1
  replace q2 := (hb67.cell (p := ⟨w.heap.size + 1, 2, none⟩) (by show w.heap.size + 1 < _; omega)).trans q2
  replace x1 := (hb67.cell (p := ⟨w4.heap.size, 1, none⟩) (by show w4.heap.size < _; omega)).trans x1
  replace x4 := (hb67.cell (p := ⟨w4.heap.size, 4, none⟩) (by show w4.heap.size < _; omega)).trans x4
  have ha7 := ha6.below hb67
  have SL7 := SL6.below hb67
  have hb07 : Below w.heap.size w w7 := Below.then hb06 hb67 (by omega)
  have lt7 : w.heap.size + 1 < w7.heap.size := by first | omega | (simp; done) | (simp; omega)
  have lu7 : w4.heap.size < w7.heap.size := by first | omega | (simp; done) | (simp; omega)
  go_wp2_with fail
  refine (WB.out _ _ (some ⟨w.heap.size, 0, none⟩) 2 _ ha7 SL7).mono ?_
  rintro e8 w8 ⟨fa8, fc8, rfl, hw8, hb8⟩
  have hb78 : Below w7.heap.size w7 w8 := hb8
  have hz8 := hb78.size
  replace q0 := (hb78.cell (p := ⟨w.heap.size + 1, 0, none⟩) (by show w.heap.size + 1 < _; omega)).trans q0
  replace q1 := (hb78.cell (p := ⟨w.heap.size + 1, 1, none⟩) (by show w.heap.size + 1 < _; omega)).trans q1
  replace q2 := (hb78.cell (p := ⟨w.heap.size + 1, 2, none⟩) (by show w.heap.size + 1 < _; omega)).trans q2
  replace x1 := (hb78.cell (p := ⟨w4.heap.size, 1, none⟩) (by show w4.heap.size < _; omega)).trans x1
  replace x4 := (hb78.cell (p := ⟨w4.heap.size, 4, none⟩) (by show w4.heap.size < _; omega)).trans x4
  have ha8 := ha7.below hb78
  have SL8 := SL7.below hb78
  have hb08 : Below w.heap.size w w8 := Below.then hb07 hb78 (by omega)
  have lt8 : w.heap.size + 1 < w8.heap.size := by first | omega | (simp; done) | (simp; omega)
  have lu8 : w4.heap.size < w8.heap.size := by first | omega | (simp; done) | (simp; omega)
  have hw7' := SlOf.below hw7 hb78
  rcases hw7' with h | ⟨b7, o7, rfl, hlt7, hcc7⟩
  · cases h
  have y0 := hcc7 0 (by decide)
  simp at y0
  clear hcc7 hw7 hw8 hw5 hw4 ha3 ha4 ha5 ha6 ha7 SL3 SL4 SL5 SL6 SL7
  go_wp2_with (first | (go_at_call 11; go_in))
  go_ret
  exact ⟨rfl, hb08⟩
end Go.Proofs.Ytiodkcecpnomcaa
