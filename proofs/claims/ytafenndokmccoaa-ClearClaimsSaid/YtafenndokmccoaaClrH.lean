/- The law of layer 'wipe': the chapter's row. -/
import Derived.Test.YtafenndokmccoaaClrG
namespace Go.Proofs.Ytafenndokmccoaa
open Go.RowKit
set_option linter.unusedVariables false
set_option linter.unusedSimpArgs false

theorem num27_calls (e : Int) (w : World) : Calls Try.prog 13 #[.int .i64 e] w fun r w' => r = .returned (.int .i64 e) ∧ Below w.heap.size w w' := by
  go_enter Try.func13, Try.ntmps13
  go_wp2
  go_ret
  exact ⟨rfl, by (repeat (first | exact Below.refl _ _ | (with_reducible assumption) | refine Below.drew ?_ | refine Below.drewN' ?_ _ | refine Below.alloc ?_ (by first | omega | (simp; done) | (simp; omega)) _ | refine Below.setCell ?_ (by first | omega | (simp; done) | (simp; omega)) _ | refine Below.then ?_ hb9 (by first | omega | (simp; done) | (simp; omega)) | refine Below.then ?_ hb8 (by first | omega | (simp; done) | (simp; omega)) | refine Below.then ?_ hb7 (by first | omega | (simp; done) | (simp; omega)) | refine Below.then ?_ hb6 (by first | omega | (simp; done) | (simp; omega)) | refine Below.then ?_ hb5 (by first | omega | (simp; done) | (simp; omega)) | refine Below.then ?_ hb4 (by first | omega | (simp; done) | (simp; omega)) | refine Below.then ?_ hb3 (by first | omega | (simp; done) | (simp; omega)) | refine Below.then ?_ hb2 (by first | omega | (simp; done) | (simp; omega)) | refine Below.then ?_ hb1 (by first | omega | (simp; done) | (simp; omega))))⟩
def ss27 : List ByteArray := [⟨#[112]⟩]
def P27 : CPar := ⟨1, 32, ss27, 0, 29⟩
theorem p27_plan : planB 1 32 ss27 = true := by decide +kernel
theorem p27_ok : CPOk P27 := ⟨by decide, by decide, by decide, by decide, .inl rfl, by decide, by decide⟩
theorem plan27_calls (w : World) : Calls Try.prog 45 #[] w fun r w' => (∃ a, r = .returned (.agg #[.int .i64 1, .int .i64 32, .slice a 1 1]) ∧ SlOf w' a (strV ss27) ∧ ∀ ad, a = some ad → w.heap.size ≤ ad.block) ∧ Below w.heap.size w w' := by
  go_enter Try.func45, Try.ntmps45
  go_wp2
  refine bodyPost_ret (v := .agg #[.int .i64 1, .int .i64 32, .slice (some ⟨w.heap.size + 1, 0, none⟩) 1 1]) (by simp [results, Try.results45, go_sem]) rfl ⟨⟨_, rfl, ?_, fun ad e => by have := Option.some.inj e; rw [← this]; simp⟩, by (repeat (first | exact Below.refl _ _ | (with_reducible assumption) | refine Below.drew ?_ | refine Below.drewN' ?_ _ | refine Below.alloc ?_ (by first | omega | (simp; done) | (simp; omega)) _ | refine Below.setCell ?_ (by first | omega | (simp; done) | (simp; omega)) _ | refine Below.then ?_ hb9 (by first | omega | (simp; done) | (simp; omega)) | refine Below.then ?_ hb8 (by first | omega | (simp; done) | (simp; omega)) | refine Below.then ?_ hb7 (by first | omega | (simp; done) | (simp; omega)) | refine Below.then ?_ hb6 (by first | omega | (simp; done) | (simp; omega)) | refine Below.then ?_ hb5 (by first | omega | (simp; done) | (simp; omega)) | refine Below.then ?_ hb4 (by first | omega | (simp; done) | (simp; omega)) | refine Below.then ?_ hb3 (by first | omega | (simp; done) | (simp; omega)) | refine Below.then ?_ hb2 (by first | omega | (simp; done) | (simp; omega)) | refine Below.then ?_ hb1 (by first | omega | (simp; done) | (simp; omega))))⟩
  have h := SlOf.new (w.alloc (.cells #[.int .i64 1, .int .i64 32, .slice (some ⟨w.heap.size + 1, 0, none⟩) 1 1] 24)) (strV ss27) 125 (0, 0)
  simpa [strV, ss27] using h
theorem wdAt_calls (x : Int) (h0 : 0 ≤ x) (h1 : x ≤ 16777215) (w : World) : Calls Try.prog 47 #[.int .i64 x] w fun r w' => r = .returned (.int .u64 (8 * x)) ∧ Below w.heap.size w w' := by
  go_enter Try.func47, Try.ntmps47
  go_wp2
  go_ret
  exact ⟨by first | rfl | (congr 2; simp [IntKind.wrap]; omega), by (repeat (first | exact Below.refl _ _ | (with_reducible assumption) | refine Below.drew ?_ | refine Below.drewN' ?_ _ | refine Below.alloc ?_ (by first | omega | (simp; done) | (simp; omega)) _ | refine Below.setCell ?_ (by first | omega | (simp; done) | (simp; omega)) _ | refine Below.then ?_ hb9 (by first | omega | (simp; done) | (simp; omega)) | refine Below.then ?_ hb8 (by first | omega | (simp; done) | (simp; omega)) | refine Below.then ?_ hb7 (by first | omega | (simp; done) | (simp; omega)) | refine Below.then ?_ hb6 (by first | omega | (simp; done) | (simp; omega)) | refine Below.then ?_ hb5 (by first | omega | (simp; done) | (simp; omega)) | refine Below.then ?_ hb4 (by first | omega | (simp; done) | (simp; omega)) | refine Below.then ?_ hb3 (by first | omega | (simp; done) | (simp; omega)) | refine Below.then ?_ hb2 (by first | omega | (simp; done) | (simp; omega)) | refine Below.then ?_ hb1 (by first | omega | (simp; done) | (simp; omega))))⟩

def l27 : List Int := ((((startW 1 32 ss27).set 66 6).set 67 40).set 68 2).set 1 (frV 0 3 32 3)
def w27 : List Int := (cAlone P27 2000 0 ⟨0, 29, 0, 0⟩ 0 l27).2.2.2
theorem l27_len : (startW 1 32 ss27).length = 69 := by decide +kernel
theorem l27_len' : l27.length = 69 := by unfold l27; simp only [List.length_set]; exact l27_len
theorem l27_rng : ∀ x ∈ l27, 0 ≤ x ∧ x < 18446744073709551616 := by
  have : l27.all (fun x => decide (0 ≤ x) && decide (x < 18446744073709551616)) = true := by decide +kernel
  intro x hx
  have := List.all_eq_true.1 this x hx
  simpa using this
theorem a27 : (cAlone P27 2000 0 ⟨0, 29, 0, 0⟩ 0 l27).1 = 0 ∧ (cAlone P27 2000 0 ⟨0, 29, 0, 0⟩ 0 l27).2.1 = 36 ∧ (cAlone P27 2000 0 ⟨0, 29, 0, 0⟩ 0 l27).2.2.1 = true := by decide +kernel
theorem w27_len : w27.length = 69 := by decide +kernel
theorem w27_at : fwS (w27.getD 1 0) = 1 ∧ fwL (w27.getD 1 0) = 3 ∧ fwH (w27.getD 1 0) = 29 ∧ fwO (w27.getD 1 0) = 0 ∧ fwR (w27.getD 1 0) = 0 ∧ w27.getD 5 0 = 0 ∧ w27.getD 67 0 = 0 ∧ 0 ≤ w27.getD 1 0 ∧ w27.getD 1 0 < 18446744073709551616 := by decide +kernel

set_option maxRecDepth 100000 in
set_option maxHeartbeats 1600000 in
theorem works27_calls (w : World) : Calls Try.prog 10 #[] w fun r w' => r = .returned (.bool true) ∧ Below w.heap.size w w' := by
  have ST := fun a W h => startH_calls 1 32 a 1 ss27 p27_plan W h
  rw [l27_len] at ST
  have WD := fun W => refWord_calls 0 0 W (by decide)
  rw [show hWord 0 0 = 6 by decide] at WD
  have AT := fun W => wdAt_calls 5 (by decide) (by decide) W
  have FR := fun W => rfFrontW_calls 0 3 32 3 W
  rw [show frW 0 3 32 3 = frV 0 3 32 3 by decide +kernel, show frE 0 3 32 3 = 0 by decide +kernel] at FR
  have OF := fun g W h => arOf_calls (some ⟨g, 0, none⟩) 69 l27 (by rw [l27_len']; decide) (by rw [l27_len']; decide) l27_rng W h
  rw [l27_len'] at OF
  have NW := fun a W h => wNew_ok P27 p27_ok p27_plan (by decide) a 1 W h
  have AL := fun D p a la pa b W hM hA h1 h2 h3 => alone_calls D p P27 p27_ok (by decide) a 1 ⟨0, 29, 0, 0⟩ la [] (by decide) pa b l27 (by rw [l27_len']; decide) W hM hA h1 h2 h3
  have LD := fun (i : Nat) (hi : i < w27.length) p b W h => arLoad_calls p b w27 i hi W h
  obtain ⟨e1, e2, e3⟩ := a27
  rw [e1, e2, e3] at AL
  obtain ⟨f1, f2, f3, f4, f5, f6, f7, f8, f9⟩ := w27_at
  have OFF := fun W => rfOfFront_calls (w27.getD 1 0) f8 f9 W
  rw [f1, f2, f3, f4, f5] at OFF
  have MS := fun a W h => wMost_calls 1 32 a 1 ss27 (by decide) W h
  have g1 : w27[1]'(by rw [w27_len]; decide) = w27.getD 1 0 := by rw [List.getD_eq_getElem?_getD, List.getElem?_eq_getElem (by rw [w27_len]; decide)]; rfl
  have g5 : w27[5]'(by rw [w27_len]; decide) = 0 := by rw [← f6, List.getD_eq_getElem?_getD, List.getElem?_eq_getElem (by rw [w27_len]; decide)]; rfl
  have g67 : w27[67]'(by rw [w27_len]; decide) = 0 := by rw [← f7, List.getD_eq_getElem?_getD, List.getElem?_eq_getElem (by rw [w27_len]; decide)]; rfl
  have LD1 := LD 1 (by rw [w27_len]; decide)
  rw [g1] at LD1
  have LD5 := LD 5 (by rw [w27_len]; decide)
  rw [g5] at LD5
  have LD67 := LD 67 (by rw [w27_len]; decide)
  rw [g67] at LD67
  have mp : mostV 32 (planB 1 32 ss27) = 98 := by rw [p27_plan]; rfl
  have me : planE 1 32 ss27 = 0 := by unfold planE; rw [if_pos p27_plan]
  rw [mp, me] at MS
  generalize w27.getD 1 0 = v1 at LD1 OFF
  have PL := Lib.hid (fun W => plan27_calls W)
  have ST := Lib.hid ST
  have WD := Lib.hid WD
  have AT := Lib.hid AT
  have FR := Lib.hid FR
  have OF := Lib.hid OF
  have NW := Lib.hid NW
  have AL := Lib.hid AL
  have LD1 := Lib.hid LD1
  have LD5 := Lib.hid LD5
  have LD67 := Lib.hid LD67
  have OFF := Lib.hid OFF
  have MS := Lib.hid MS
  have HL27 := Lib.hid (show ((((startW 1 32 ss27).set 66 6).set 67 40).set 68 2).set 1 (frV 0 3 32 3) = l27 from rfl)
  have HLen := Lib.hid l27_len
  clear LD e1 e2 e3 f1 f2 f3 f4 f5 f6 f7 f8 f9 g1 g5 g67 mp me
  go_enter Try.func10, Try.ntmps10
  go_wp2_with fail
  refine (PL.out _).mono ?_
  rintro e1 w1 ⟨⟨a1, rfl, hs1, hf1⟩, hb1⟩
  go_wp2_with fail
  refine (ST.out a1 _ hs1).mono ?_
  rintro e2 w2 ⟨g, rfl, hr2, hg2, hb2⟩
  generalize startW 1 32 ss27 = s0 at hr2 HL27 HLen
  have hb02 : Below w.heap.size w w2 := Below.then hb1 hb2 hb1.size
  have hgw : w.heap.size ≤ g := Nat.le_trans hb1.size hg2
  clear hs1 hf1 hb1 hb2 hg2
  go_wp2_with fail
  refine (WD.out _).mono ?_
  rintro e3 w3 ⟨rfl, hb3⟩
  have hr3 := hr2.below hb3
  have hb03 : Below w.heap.size w w3 := Below.then hb02 hb3 hb02.size
  clear hr2 hb3 hb02
  go_wp2_with fail
  refine (AT.out _).mono ?_
  rintro e4 w4 ⟨rfl, hb4⟩
  have hr4 := hr3.below hb4
  have hb04 : Below w.heap.size w w4 := Below.then hb03 hb4 hb03.size
  clear hr3 hb4 hb03
  have k66 := hr4.cell 66 (by rw [HLen.out]; decide)
  have k67 := hr4.cell 67 (by rw [HLen.out]; decide)
  have k68 := hr4.cell 68 (by rw [HLen.out]; decide)
  have z66 := hr4.fz 66
  have z67 := hr4.fz 67
  have z68 := hr4.fz 68
  have lg4 : g < w4.heap.size := (Array.getElem?_eq_some_iff.1 hr4).1
  have hr5 := ((hr4.set 66 6).set 67 40).set 68 2
  have hb05 : Below w.heap.size w (((w4.setCell ⟨g, 66, none⟩ (.int .u64 6)).setCell ⟨g, 67, none⟩ (.int .u64 40)).setCell ⟨g, 68, none⟩ (.int .u64 2)) := ((hb04.setCell (p := ⟨g, 66, none⟩) hgw _).setCell (p := ⟨g, 67, none⟩) hgw _).setCell (p := ⟨g, 68, none⟩) hgw _
  have HR5 := Lib.hid hr5
  have HB5 := Lib.hid hb05
  clear hr5 hb05 hr4 hb04
  go_wp2_with fail
  have hr5 := HR5.out
  have hb05 := HB5.out
  clear HR5 HB5 k66 k67 k68 z66 z67 z68 lg4
  generalize (((w4.setCell ⟨g, 66, none⟩ (.int .u64 6)).setCell ⟨g, 67, none⟩ (.int .u64 40)).setCell ⟨g, 68, none⟩ (.int .u64 2)) = W5 at hr5 hb05 ⊢
  refine (FR.out _).mono ?_
  rintro e6 w6 ⟨rfl, hb6⟩
  have hr6 := hr5.below hb6
  have hb06 : Below w.heap.size w w6 := Below.then hb05 hb6 hb05.size
  clear hr5 hb6 hb05
  have k1 := hr6.cell 1 (by simp only [List.length_set]; rw [HLen.out]; decide)
  have z1 := hr6.fz 1
  have lg6 : g < w6.heap.size := (Array.getElem?_eq_some_iff.1 hr6).1
  have hr7 := hr6.set 1 (frV 0 3 32 3)
  rw [HL27.out] at hr7
  have hb07 : Below w.heap.size w (w6.setCell ⟨g, 1, none⟩ (.int .u64 (frV 0 3 32 3))) := hb06.setCell (p := ⟨g, 1, none⟩) hgw _
  have HR7 := Lib.hid hr7
  have HB7 := Lib.hid hb07
  clear hr7 hb07 hr6 hb06
  go_wp2_with fail
  have hr7 := HR7.out
  have hb07 := HB7.out
  clear HR7 HB7 k1 z1 lg6
  generalize w6.setCell ⟨g, 1, none⟩ (.int .u64 (frV 0 3 32 3)) = W7 at hr7 hb07 ⊢
  refine (OF.out g _ hr7.wds).mono ?_
  rintro e8 w8 ⟨rfl, hA8, hb8⟩
  have hb08 : Below w.heap.size w w8 := Below.then hb07 hb8 hb07.size
  have hw7 : w.heap.size ≤ W7.heap.size := hb07.size
  generalize W7.heap.size = bb at hA8 hw7 ⊢
  clear hr7 hb8 hb07
  go_wp2_with fail
  refine (PL.out _).mono ?_
  rintro e9 w9 ⟨⟨a2, rfl, hs9, hf9⟩, hb9⟩
  have hA9 := hA8.below hb9
  have hb09 : Below w.heap.size w w9 := Below.then hb08 hb9 hb08.size
  have hab : ∀ ad, a2 = some ad → ad.block ≠ bb := fun ad e => by have := hf9 ad e; have := hA8.bb; omega
  clear hA8 hb9 hb08 hf9
  go_wp2_with fail
  refine (NW.out a2 _ hs9).mono ?_
  rintro e10 w10 ⟨p, rfl, hp10, hM10, hb10⟩
  have hA10 := hA9.below hb10
  have hb010 : Below w.heap.size w w10 := Below.then hb09 hb10 hb09.size
  have l9a := hA9.pb
  have l9b := hA9.bb
  have hw9 : w.heap.size ≤ w9.heap.size := hb09.size
  clear hA9 hb10 hb09 hs9
  go_wp2_with fail
  refine (AL.out _ p a2 _ (bb + 1) bb _ hM10 hA10 (fun h => by have := h.1; omega) (fun h => by have := h.1; omega) hab).mono ?_
  rintro e11 w11 ⟨rfl, hO11, hA11⟩
  have hb11 : Below w.heap.size w w11 := hb010.trans (hO11.below hb010.size fun k hk => by
    rcases hk with hk | hk
    · have := hk.1; omega
    · omega)
  have hA11 : Ar w11 (bb + 1) bb w27 := hA11
  clear hA10 hM10 hO11 hb010 hab
  go_wp2_with fail
  refine (LD1.out _ _ _ hA11).mono ?_
  rintro e12 w12 ⟨rfl, hb12⟩
  have hA12 := hA11.below hb12
  have hb012 : Below w.heap.size w w12 := Below.then hb11 hb12 hb11.size
  clear hA11 hb11 hb12
  go_wp2_with fail
  refine (OFF.out _).mono ?_
  rintro e13 w13 ⟨rfl, hb13⟩
  have hA13 := hA12.below hb13
  have hb013 : Below w.heap.size w w13 := Below.then hb012 hb13 hb012.size
  clear hA12 hb012 hb13
  go_wp2_with fail
  refine (LD5.out _ _ _ (hA13.alloc _)).mono ?_
  rintro e14 w14 ⟨rfl, hb14⟩
  have X14 := blk_below (MapKept.heap_alloc w13 (.cells #[.int .i64 1, .int .i64 3, .int .i64 29, .int .i64 0] 26)).1 hb14
  have hA14 := (hA13.alloc (.cells #[.int .i64 1, .int .i64 3, .int .i64 29, .int .i64 0] 26)).below hb14
  have hb014 : Below w.heap.size w w14 := Below.then (hb013.alloc hb013.size (.cells #[.int .i64 1, .int .i64 3, .int .i64 29, .int .i64 0] 26)) hb14 (by have := hb013.size; simp; omega)
  clear hA13 hb013 hb14
  go_wp2_with fail
  refine (LD67.out _ _ _ hA14).mono ?_
  rintro e15 w15 ⟨rfl, hb15⟩
  have X15 := blk_below X14 hb15
  have hb015 : Below w.heap.size w w15 := Below.then hb014 hb15 hb014.size
  clear hA14 hb014 hb15 X14
  go_wp2_with fail
  refine (PL.out _).mono ?_
  rintro e16 w16 ⟨⟨a3, rfl, hs16, hf16⟩, hb16⟩
  have X16 := blk_below X15 hb16
  have hb016 : Below w.heap.size w w16 := Below.then hb015 hb16 hb015.size
  clear hb015 hb16 X15 hf16
  go_wp2_with fail
  refine (MS.out a3 _ hs16).mono ?_
  rintro e17 w17 ⟨rfl, hb17⟩
  have X17 := blk_below X16 hb17
  have hb017 : Below w.heap.size w w17 := Below.then hb016 hb17 hb016.size
  clear hb016 hb17 X16 hs16
  have x0 : w17.cell? ⟨w13.heap.size, 0, none⟩ = some (.int .i64 1) := blk_cell X17 0 _ rfl
  have x1 : w17.cell? ⟨w13.heap.size, 1, none⟩ = some (.int .i64 3) := blk_cell X17 1 _ rfl
  have x2 : w17.cell? ⟨w13.heap.size, 2, none⟩ = some (.int .i64 29) := blk_cell X17 2 _ rfl
  have x3 : w17.cell? ⟨w13.heap.size, 3, none⟩ = some (.int .i64 0) := blk_cell X17 3 _ rfl
  have lx := blk_lt X17
  go_wp2_with (first | (go_at_call 13; go_in))
  go_ret
  exact ⟨rfl, by (repeat (first | (with_reducible exact Below.refl _ _) | (with_reducible assumption) | (with_reducible refine Below.drew ?_) | (with_reducible refine Below.alloc ?_ (by first | omega | (simp; done) | (simp; omega)) _) | (with_reducible refine Below.setCell ?_ (by first | omega | (simp; done) | (simp; omega)) _)))⟩

set_option maxRecDepth 100000 in
set_option maxHeartbeats 1600000 in
theorem clearNil_walk (w : World) (ans : Int) (_wa : (Lit.int .u64 ans).wf = true) : Calls Try.prog 5 #[.int .u64 ans] w fun r w' => r = .returned (.bool true) ∧ Below w.heap.size w w' := by
  have WK := Lib.hid (fun W => works27_calls W)
  have N0 := fun W => wNext_nil ans W
  unfold accV at N0
  have N0 := Lib.hid N0
  have N1 := fun W h => wNext_zero w.heap.size #[.int .i64 0, .int .i64 0, .slice none 0 0, .int .i64 0, .int .i64 0, .int .i64 0, .int .i64 0, .nilFunc, .slice none 0 0, .bool false, .int .i64 0] ans W rfl h
  unfold accV at N1
  have N1 := Lib.hid N1
  have O0 := Lib.hid (fun W => wOut_nil W)
  have O1 := Lib.hid (fun W h => wOut_zero w.heap.size #[.int .i64 0, .int .i64 0, .slice none 0 0, .int .i64 0, .int .i64 0, .int .i64 0, .int .i64 0, .nilFunc, .slice none 0 0, .bool false, .int .i64 0] W rfl h)
  have CP := Lib.hid (fun W => wCopy_nil W)
  have Z0 := (MapKept.heap_alloc w (.cells #[.int .i64 0, .int .i64 0, .slice none 0 0, .int .i64 0, .int .i64 0, .int .i64 0, .int .i64 0, .nilFunc, .slice none 0 0, .bool false, .int .i64 0] 74)).1
  have hb0 : Below w.heap.size w (w.alloc (.cells #[.int .i64 0, .int .i64 0, .slice none 0 0, .int .i64 0, .int .i64 0, .int .i64 0, .int .i64 0, .nilFunc, .slice none 0 0, .bool false, .int .i64 0] 74)) := by (repeat (first | exact Below.refl _ _ | (with_reducible assumption) | refine Below.drew ?_ | refine Below.drewN' ?_ _ | refine Below.alloc ?_ (by first | omega | (simp; done) | (simp; omega)) _ | refine Below.setCell ?_ (by first | omega | (simp; done) | (simp; omega)) _ | refine Below.then ?_ hb9 (by first | omega | (simp; done) | (simp; omega)) | refine Below.then ?_ hb8 (by first | omega | (simp; done) | (simp; omega)) | refine Below.then ?_ hb7 (by first | omega | (simp; done) | (simp; omega)) | refine Below.then ?_ hb6 (by first | omega | (simp; done) | (simp; omega)) | refine Below.then ?_ hb5 (by first | omega | (simp; done) | (simp; omega)) | refine Below.then ?_ hb4 (by first | omega | (simp; done) | (simp; omega)) | refine Below.then ?_ hb3 (by first | omega | (simp; done) | (simp; omega)) | refine Below.then ?_ hb2 (by first | omega | (simp; done) | (simp; omega)) | refine Below.then ?_ hb1 (by first | omega | (simp; done) | (simp; omega))))
  go_enter Try.func5, Try.ntmps5
  go_wp2_with fail
  refine (N0.out _).mono ?_
  rintro e1 w1 ⟨rfl, hb1⟩
  have Z1 := blk_alloc (blk_below Z0 hb1) (.cells #[.int .i64 0, .int .i64 0, .int .u64 0, .int .u64 0] 44)
  have X1 := (MapKept.heap_alloc w1 (.cells #[.int .i64 0, .int .i64 0, .int .u64 0, .int .u64 0] 44)).1
  have hb01 : Below w.heap.size w (w1.alloc (.cells #[.int .i64 0, .int .i64 0, .int .u64 0, .int .u64 0] 44)) := (Below.then hb0 hb1 hb0.size).alloc (Below.then hb0 hb1 hb0.size).size _
  clear Z0 hb0 hb1
  go_wp2_with fail
  refine (N1.out _ Z1).mono ?_
  rintro e2 w2 ⟨rfl, hb2⟩
  have Z2 := blk_alloc (blk_below Z1 hb2) (.cells #[.int .i64 0, .int .i64 0, .int .u64 0, .int .u64 0] 44)
  have X2 := blk_alloc (blk_below X1 hb2) (.cells #[.int .i64 0, .int .i64 0, .int .u64 0, .int .u64 0] 44)
  have Y2 := (MapKept.heap_alloc w2 (.cells #[.int .i64 0, .int .i64 0, .int .u64 0, .int .u64 0] 44)).1
  have hb02 : Below w.heap.size w (w2.alloc (.cells #[.int .i64 0, .int .i64 0, .int .u64 0, .int .u64 0] 44)) := (Below.then hb01 hb2 hb01.size).alloc (Below.then hb01 hb2 hb01.size).size _
  clear Z1 X1 hb01 hb2
  go_wp2_with fail
  refine (O0.out _).mono ?_
  rintro e3 w3 ⟨rfl, hb3⟩
  have Z3 := blk_below Z2 hb3
  have X3 := blk_below X2 hb3
  have Y3 := blk_below Y2 hb3
  have hb03 : Below w.heap.size w w3 := Below.then hb02 hb3 hb02.size
  clear Z2 X2 Y2 hb02 hb3
  go_wp2_with fail
  refine (O1.out _ Z3).mono ?_
  rintro e4 w4 ⟨rfl, hb4⟩
  have X4 := blk_below X3 hb4
  have Y4 := blk_below Y3 hb4
  have hb04 : Below w.heap.size w w4 := Below.then hb03 hb4 hb03.size
  clear Z3 X3 Y3 hb03 hb4
  have x0 : w4.cell? ⟨w1.heap.size, 0, none⟩ = some (.int .i64 0) := blk_cell X4 0 _ rfl
  have x1 : w4.cell? ⟨w1.heap.size, 1, none⟩ = some (.int .i64 0) := blk_cell X4 1 _ rfl
  have x2 : w4.cell? ⟨w1.heap.size, 2, none⟩ = some (.int .u64 0) := blk_cell X4 2 _ rfl
  have x3 : w4.cell? ⟨w1.heap.size, 3, none⟩ = some (.int .u64 0) := blk_cell X4 3 _ rfl
  have y0 : w4.cell? ⟨w2.heap.size, 0, none⟩ = some (.int .i64 0) := blk_cell Y4 0 _ rfl
  have y1 : w4.cell? ⟨w2.heap.size, 1, none⟩ = some (.int .i64 0) := blk_cell Y4 1 _ rfl
  have y2 : w4.cell? ⟨w2.heap.size, 2, none⟩ = some (.int .u64 0) := blk_cell Y4 2 _ rfl
  have y3 : w4.cell? ⟨w2.heap.size, 3, none⟩ = some (.int .u64 0) := blk_cell Y4 3 _ rfl
  have lx := blk_lt X4
  have ly := blk_lt Y4
  go_wp2_with (first | (go_at_call 13; go_in) | (go_at_call 27; refine (CP.out _).mono ?_; rintro e5 w5 ⟨rfl, hb5⟩; have hz5 := hb5.size; (try simp at hz5)) | (go_at_call 10; refine (WK.out _).mono ?_; rintro e6 w6 ⟨rfl, hb6⟩; have hz6 := hb6.size; (try simp at hz6)))
  go_ret
  exact ⟨rfl, Below.then (Below.then hb04 hb5 hb04.size) hb6 (by have := hb04.size; omega)⟩
end Go.Proofs.Ytafenndokmccoaa
