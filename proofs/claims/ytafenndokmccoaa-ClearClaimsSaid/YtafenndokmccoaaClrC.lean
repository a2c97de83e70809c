/- The layer 'wipe': its machine behind a load; the frontier turned round. -/
import Derived.Test.YtafenndokmccoaaClrB
namespace Go.Proofs.Ytafenndokmccoaa
open Go.RowKit
set_option linter.unusedVariables false
set_option linter.unusedSimpArgs false

theorem drew_cell (w : World) (p : Addr) : w.drew.cell? p = w.cell? p := rfl
theorem wFits_calls (n at_ many : Int) (h0 : 0 ≤ at_) (h1 : at_ ≤ 100000) (h2 : 0 ≤ many) (h3 : many ≤ 100000) (w : World) : Calls Try.prog 107 #[.int .i64 n, .int .i64 at_, .int .i64 many] w fun e w' => e = .returned (.bool (decide (n ≤ many - at_))) ∧ w' = w := by
  have hw : IntKind.i64.wrap (many - at_) = many - at_ := IntWalk.i64_in _ (by omega)
  go_enter Try.func107, Try.ntmps107
  go_wp2
  go_ret
  exact ⟨rfl, rfl⟩

set_option maxRecDepth 100000 in
set_option maxHeartbeats 1600000 in
theorem wWalk1_calls (D : Nat → Prop) (p : Nat) (ro : Option Nat) (P : CPar) (hP : CPOk P) (a : Option Addr) (c : Nat) (nx la : Value) (s : CSt) (he : s.err = 0) (hn : P.ss.length ≤ maxLen) (pm pa : Nat) (x ans : Int) (h0 : 0 ≤ x) (h1 : x < P.sp) (ha0 : 0 ≤ ans) (ha1 : ans < 18446744073709551616) (w : World) (h : MB w p P a c nx la false 0) (hD : ∀ k, D k → k < w.heap.size) (hr : ∀ g, ro = some g → g < w.heap.size) (hm : w.heap[pm]? = some (PtO p)) (ha : w.heap[pa]? = some (InO x)) (dm : D pm) (da : D pa) (rm : ro ≠ some pm) (ra : ro ≠ some pa) (pmp : pm ≠ p) (pap : pa ≠ p) (hs : SlOf w a (strV P.ss)) :
    Calls Try.prog 105 #[.int .u64 ans, .pointer (some ⟨pm, 0, none⟩), .pointer (some ⟨pa, 0, none⟩)] w (StPost D p ro P a c la w (if cObj P x ans = true then ⟨⟨2, x + hSizeN ans P.ss, s.was, s.err⟩, 2, cBase P (1 - P.fr) + x + 1, 0, 0, true⟩ else cWalk P s (x + 1))) := by
  have lp := blk_lt h
  have hbo := cBase_range hP hP.f
  have hby := cBase_range hP (s := 1 - P.fr) (by have := hP.f; omega)
  have s4 := hP.s4
  have HH := Lib.hid h
  have HD := Lib.hid hD
  have HRo := Lib.hid hr
  clear h hD hr
  have HZ := Lib.hid (fun W h => hSize_calls ans ha0 ha1 a c P.ss hn W h)
  have HW := fun W h hD hr => wWalk_calls D p ro P hP a c nx la s he (x + 1) (by omega) (by omega) W h hD hr
  have HB := Lib.hid (fun (k : Nat) (o : Obj) (h : w.heap[k]? = some o) => blk_alloc h (.cells #[.int .i64 0, .int .i64 0, .int .u64 0, .int .u64 0] 44))
  have HS := Lib.hid hs
  have l0 := blk_lt hm
  have l1 := blk_lt ha
  have q0 : w.cell? ⟨pm, 0, none⟩ = some (.pointer (some ⟨p, 0, none⟩)) := blk_cell hm 0 _ rfl
  have m2 : w.cell? ⟨p, 2, none⟩ = some (.slice a P.ss.length c) := blk_cell HH.out 2 _ rfl
  have hcob : cObj P x ans = (decide (hSizeE ans P.ss = 0) && decide (hSizeN ans P.ss ≤ P.sp - x)) := rfl
  have hz10 : hSizeE ans P.ss = 0 → 2 ≤ hSizeN ans P.ss ∧ hSizeN ans P.ss ≤ 10 := fun h => hSize_pos h
  rw [hcob]
  clear hs hcob
  generalize hSizeN ans P.ss = zn at HZ hz10 ⊢
  generalize hSizeE ans P.ss = ze at HZ hz10 ⊢
  by_cases hze : ze = 0
  · subst hze
    obtain ⟨z2, z10⟩ := hz10 rfl
    have g1 : ((0 : Int) != 0) = false := rfl
    have HF := Lib.hid (fun W => wFits_calls zn x P.sp h0 (by omega) (by omega) (by omega) W)
    by_cases hfi : zn ≤ P.sp - x
    · rw [decide_eq_true hfi] at HF
      have e1 : (decide ((0 : Int) = 0) && decide (zn ≤ P.sp - x)) = true := by rw [decide_eq_true hfi]; rfl
      rw [e1, if_pos rfl]
      unfold StPost accV
      have hT := fun (nn : Nat) W h => wStore_calls p P a c nx la false 0 109 #[] #[.pointer (some ⟨pm, 0, none⟩), .pointer (some ⟨pa, 0, none⟩), .pointer (some ⟨nn, 0, none⟩)] (cBase P (1 - P.fr) + x + 1) W h
      unfold accV at hT
      have hT := Lib.hid hT
      dsimp only
      have hw : IntKind.i64.wrap (cBase P (1 - P.fr) + x) = cBase P (1 - P.fr) + x := IntWalk.i64_in _ (by omega)
      have hw1 : IntKind.i64.wrap (cBase P (1 - P.fr) + x + 1) = cBase P (1 - P.fr) + x + 1 := IntWalk.i64_in _ (by omega)
      have hmf : ∀ (fn : Fn) (first cap : Array Value) (w : World), (Instr.makeFunc fn first cap).run Try.prog w = .ok (.func fn first cap) w := fun _ _ _ _ => rfl
      clear e1 hz10
      go_enter Try.func105, Try.ntmps105
      go_wp2_with fail
      have hm1 := HB.out _ _ hm
      have ha1 := HB.out _ _ ha
      have X1 : (w.alloc (.cells #[.int .i64 0, .int .i64 0, .int .u64 0, .int .u64 0] 44)).heap[w.heap.size]? = some (.cells #[.int .i64 0, .int .i64 0, .int .u64 0, .int .u64 0] 44 (0, 0)) := (MapKept.heap_alloc w _).1
      have M1 : MB (w.alloc (.cells #[.int .i64 0, .int .i64 0, .int .u64 0, .int .u64 0] 44)) p P a c nx la false 0 := blk_alloc HH.out _
      have hb1 : Below w.heap.size w (w.alloc (.cells #[.int .i64 0, .int .i64 0, .int .u64 0, .int .u64 0] 44)) := by (repeat (first | exact Below.refl _ _ | (with_reducible assumption) | refine Below.drew ?_ | refine Below.drewN' ?_ _ | refine Below.alloc ?_ (by first | omega | (simp; done) | (simp; omega)) _ | refine Below.setCell ?_ (by first | omega | (simp; done) | (simp; omega)) _ | refine Below.then ?_ hb9 (by first | omega | (simp; done) | (simp; omega)) | refine Below.then ?_ hb8 (by first | omega | (simp; done) | (simp; omega)) | refine Below.then ?_ hb7 (by first | omega | (simp; done) | (simp; omega)) | refine Below.then ?_ hb6 (by first | omega | (simp; done) | (simp; omega)) | refine Below.then ?_ hb5 (by first | omega | (simp; done) | (simp; omega)) | refine Below.then ?_ hb4 (by first | omega | (simp; done) | (simp; omega)) | refine Below.then ?_ hb3 (by first | omega | (simp; done) | (simp; omega)) | refine Below.then ?_ hb2 (by first | omega | (simp; done) | (simp; omega)) | refine Below.then ?_ hb1 (by first | omega | (simp; done) | (simp; omega))))
      have hz1 : w.heap.size < (w.alloc (.cells #[.int .i64 0, .int .i64 0, .int .u64 0, .int .u64 0] 44)).heap.size := by simp
      have hD1 : ∀ k, D k → k < (w.alloc (.cells #[.int .i64 0, .int .i64 0, .int .u64 0, .int .u64 0] 44)).heap.size := fun k hk => Nat.lt_of_lt_of_le (HD.out k hk) hb1.size
      have hr1 : ∀ g, ro = some g → g < (w.alloc (.cells #[.int .i64 0, .int .i64 0, .int .u64 0, .int .u64 0] 44)).heap.size := fun g hg => Nat.lt_of_lt_of_le (HRo.out g hg) hb1.size
      generalize (w.alloc (.cells #[.int .i64 0, .int .i64 0, .int .u64 0, .int .u64 0] 44)) = W1 at X1 M1 hb1 hz1 hD1 hr1 hm1 ha1 ⊢
      have Bm : W1.heap[pm]? = some (PtO p) := hm1
      have Ba : W1.heap[pa]? = some (InO x) := ha1
      refine (HZ.out _ (HS.out.below hb1)).mono ?_
      rintro e2 w2 ⟨rfl, hb2⟩
      have hz2 := hb2.size
      have X2 := blk_below X1 hb2
      have M2 : MB w2 p P a c nx la false 0 := blk_below M1 hb2
      have Bm2 : w2.heap[pm]? = some (PtO p) := blk_below Bm hb2
      have Ba2 : w2.heap[pa]? = some (InO x) := blk_below Ba hb2
      have hb02 : Below w.heap.size w w2 := Below.then hb1 hb2 (by omega)
      clear X1 M1 Bm Ba hm1 ha1 hb2 hD1 hr1
      go_wp2_with fail
      have N3 : (w2.alloc (.cells #[.int .i64 zn] 3)).heap[w2.heap.size]? = some (InO zn) := (MapKept.heap_alloc w2 _).1
      have X3 := blk_alloc X2 (.cells #[.int .i64 zn] 3)
      have M3 : MB (w2.alloc (.cells #[.int .i64 zn] 3)) p P a c nx la false 0 := blk_alloc M2 _
      have Bm3 := blk_alloc Bm2 (.cells #[.int .i64 zn] 3)
      have Ba3 := blk_alloc Ba2 (.cells #[.int .i64 zn] 3)
      have hb03 : Below w.heap.size w (w2.alloc (.cells #[.int .i64 zn] 3)) := hb02.alloc (by omega) _
      have hz3 : w2.heap.size < (w2.alloc (.cells #[.int .i64 zn] 3)).heap.size := by simp
      generalize w2.alloc (.cells #[.int .i64 zn] 3) = W3 at N3 X3 M3 Bm3 Ba3 hb03 hz3 ⊢
      clear X2 M2 Bm2 Ba2 hb02 q0 m2
      have q0 : W3.cell? ⟨pm, 0, none⟩ = some (.pointer (some ⟨p, 0, none⟩)) := blk_cell Bm3 0 _ rfl
      have q1 : W3.cell? ⟨pa, 0, none⟩ = some (.int .i64 x) := blk_cell Ba3 0 _ rfl
      have q2 : W3.cell? ⟨w2.heap.size, 0, none⟩ = some (.int .i64 zn) := blk_cell N3 0 _ rfl
      have m1 : W3.cell? ⟨p, 1, none⟩ = some (.int .i64 P.sp) := blk_cell M3 1 _ rfl
      go_quiet (first | (go_at_call 107; exact Calls.quiet_of_same (HF.out _)))
      rename_i nq
      have X1 := blk_drewN X3 nq
      have M1 : MB (W3.drewN nq) p P a c nx la false 0 := blk_drewN M3 nq
      have Bm1 := blk_drewN Bm3 nq
      have Ba1 := blk_drewN Ba3 nq
      have N1 := blk_drewN N3 nq
      have hb1 : Below w.heap.size w (W3.drewN nq) := Below.drewN' hb03 nq
      have hz4 : W3.heap.size ≤ (W3.drewN nq).heap.size := (Below.drewN' (Below.refl W3.heap.size W3) nq).size
      generalize W3.drewN nq = W4 at X1 M1 Bm1 Ba1 N1 hb1 hz4 ⊢
      clear q0 q1 q2 m1 X3 M3 Bm3 Ba3 N3 hb03
      have hD1 : ∀ k, D k → k < W4.heap.size := fun k hk => Nat.lt_of_lt_of_le (HD.out k hk) hb1.size
      have hr1 : ∀ g, ro = some g → g < W4.heap.size := fun g hg => Nat.lt_of_lt_of_le (HRo.out g hg) hb1.size
      have q0 : W4.cell? ⟨pm, 0, none⟩ = some (.pointer (some ⟨p, 0, none⟩)) := blk_cell Bm1 0 _ rfl
      have q1 : W4.cell? ⟨pa, 0, none⟩ = some (.int .i64 x) := blk_cell Ba1 0 _ rfl
      have m6 : W4.cell? ⟨p, 6, none⟩ = some (.int .i64 (cBase P (1 - P.fr))) := blk_cell M1 6 _ rfl
      go_wp2_with fail
      have hb1d : Below w.heap.size w W4.drew := Below.drew hb1
      have zw : W4.drew.heap.size = W4.heap.size := rfl
      have M1d : MB W4.drew p P a c nx la false 0 := blk_drew M1
      have hDd : ∀ k, D k → k < W4.drew.heap.size := fun k hk => Nat.lt_of_lt_of_le (HD.out k hk) hb1d.size
      have hrd : ∀ g, ro = some g → g < W4.drew.heap.size := fun g hg => Nat.lt_of_lt_of_le (HRo.out g hg) hb1d.size
      have d0 : W4.drew.cell? ⟨pm, 0, none⟩ = some (.pointer (some ⟨p, 0, none⟩)) := q0
      have d1 : W4.drew.cell? ⟨pa, 0, none⟩ = some (.int .i64 x) := q1
      have d2 : W4.drew.cell? ⟨p, 6, none⟩ = some (.int .i64 (cBase P (1 - P.fr))) := m6
      have k0 := trivial
      have k1 := trivial
      have k2 := trivial
      go_region_held3 (fun A => A.cell? ⟨pm, 0, none⟩ = some (.pointer (some ⟨p, 0, none⟩)) ∧ A.cell? ⟨pa, 0, none⟩ = some (.int .i64 x) ∧ A.cell? ⟨p, 6, none⟩ = some (.int .i64 (cBase P (1 - P.fr)))) (first | (with_reducible exact ⟨d0, d1, d2⟩) | (with_reducible exact ⟨k0, k1, k2⟩) | (refine ⟨?_, ?_, ?_⟩ <;> (repeat (rw [cell_blk _ _ _ _ _ _ (by omega)])) <;> (first | exact k0 | exact k1 | exact k2))) (first | (go_at_call 108; refine (hT.out _ _ M1d).mono ?_; rintro r w9 ⟨rfl, ho9, M9, F9⟩; have k0 := blk_cell (ho9.blk (show ¬ pm = p from pmp) Bm1) 0 _ rfl; have k1 := blk_cell (ho9.blk (show ¬ pa = p from pap) Ba1) 0 _ rfl; have k2 := blk_cell M9 6 _ rfl; have X9 := ho9.blk (show ¬ w.heap.size = p by omega) X1; have x0 : w9.cell? ⟨w.heap.size, 0, none⟩ = some (.int .i64 0) := blk_cell X9 0 _ rfl; have x1 : w9.cell? ⟨w.heap.size, 1, none⟩ = some (.int .i64 0) := blk_cell X9 1 _ rfl; have x2 : w9.cell? ⟨w.heap.size, 2, none⟩ = some (.int .u64 0) := blk_cell X9 2 _ rfl; have x3 : w9.cell? ⟨w.heap.size, 3, none⟩ = some (.int .u64 0) := blk_cell X9 3 _ rfl; have y0 := blk_fz X9 0; have y1 := blk_fz X9 1; have y2 := blk_fz X9 2; have y3 := blk_fz X9 3; have lX := blk_lt X9))
      have HO := Lib.hid ((Only.of hb1d).trans ho9)
      have HN := Lib.hid (show NxP w9 (fun k => (D k ∨ w.heap.size ≤ k) ∧ k ≠ w.heap.size) p ro ⟨2, x + zn, s.was, s.err⟩ (fnStore1 W4.drew.heap.size) from
        ⟨W4.drew.heap.size, pm, pa, w2.heap.size, x, zn, rfl, ⟨⟨.inr (by omega), by omega⟩, by omega, fun e => by have := HRo.out _ e; omega, F9⟩, ⟨⟨.inl dm, by omega⟩, pmp, rm, ho9.blk (show ¬ pm = p from pmp) Bm1⟩, ⟨⟨.inl da, by omega⟩, pap, ra, ho9.blk (show ¬ pa = p from pap) Ba1⟩, ⟨⟨.inr (by omega), by omega⟩, by omega, fun e => by have := HRo.out _ e; omega, ho9.blk (show ¬ w2.heap.size = p by omega) N1⟩, rfl⟩)
      have HM := Lib.hid M9
      clear F9 M9 ho9 q0 q1 m6 k0 k1 k2 d0 d1 d2 Bm1 Ba1 N1 X1
      go_wp2
      refine bodyPost_ret (v := .tuple #[.agg #[.int .i64 2, .int .i64 (cBase P (1 - P.fr) + x + 1), .int .u64 0, .int .u64 0], .bool true]) (by simp [results, Try.results105, go_sem, World.cell?_setCell_same', cell_off, *]) rfl ⟨rfl, ?_⟩
      exact StTail.mk9 HO.out (by rw [he]; exact HM.out) HN.out (by omega) lp _ _ _ _
    · rw [decide_eq_false hfi] at HF
      have e1 : (decide ((0 : Int) = 0) && decide (zn ≤ P.sp - x)) = false := by rw [decide_eq_false hfi]; rfl
      rw [e1, if_neg (by decide)]
      unfold StPost accV at HW
      unfold StPost accV
      generalize cWalk P s (x + 1) = r0 at HW ⊢
      have HW := Lib.hid HW
      have hw : IntKind.i64.wrap (x + 1) = x + 1 := IntWalk.i64_in _ (by omega)
      clear e1 hfi hz10
      go_enter Try.func105, Try.ntmps105
      go_wp2_with fail
      have hm1 := HB.out _ _ hm
      have ha1 := HB.out _ _ ha
      have X1 : (w.alloc (.cells #[.int .i64 0, .int .i64 0, .int .u64 0, .int .u64 0] 44)).heap[w.heap.size]? = some (.cells #[.int .i64 0, .int .i64 0, .int .u64 0, .int .u64 0] 44 (0, 0)) := (MapKept.heap_alloc w _).1
      have M1 : MB (w.alloc (.cells #[.int .i64 0, .int .i64 0, .int .u64 0, .int .u64 0] 44)) p P a c nx la false 0 := blk_alloc HH.out _
      have hb1 : Below w.heap.size w (w.alloc (.cells #[.int .i64 0, .int .i64 0, .int .u64 0, .int .u64 0] 44)) := by (repeat (first | exact Below.refl _ _ | (with_reducible assumption) | refine Below.drew ?_ | refine Below.drewN' ?_ _ | refine Below.alloc ?_ (by first | omega | (simp; done) | (simp; omega)) _ | refine Below.setCell ?_ (by first | omega | (simp; done) | (simp; omega)) _ | refine Below.then ?_ hb9 (by first | omega | (simp; done) | (simp; omega)) | refine Below.then ?_ hb8 (by first | omega | (simp; done) | (simp; omega)) | refine Below.then ?_ hb7 (by first | omega | (simp; done) | (simp; omega)) | refine Below.then ?_ hb6 (by first | omega | (simp; done) | (simp; omega)) | refine Below.then ?_ hb5 (by first | omega | (simp; done) | (simp; omega)) | refine Below.then ?_ hb4 (by first | omega | (simp; done) | (simp; omega)) | refine Below.then ?_ hb3 (by first | omega | (simp; done) | (simp; omega)) | refine Below.then ?_ hb2 (by first | omega | (simp; done) | (simp; omega)) | refine Below.then ?_ hb1 (by first | omega | (simp; done) | (simp; omega))))
      have hz1 : w.heap.size < (w.alloc (.cells #[.int .i64 0, .int .i64 0, .int .u64 0, .int .u64 0] 44)).heap.size := by simp
      have hD1 : ∀ k, D k → k < (w.alloc (.cells #[.int .i64 0, .int .i64 0, .int .u64 0, .int .u64 0] 44)).heap.size := fun k hk => Nat.lt_of_lt_of_le (HD.out k hk) hb1.size
      have hr1 : ∀ g, ro = some g → g < (w.alloc (.cells #[.int .i64 0, .int .i64 0, .int .u64 0, .int .u64 0] 44)).heap.size := fun g hg => Nat.lt_of_lt_of_le (HRo.out g hg) hb1.size
      generalize (w.alloc (.cells #[.int .i64 0, .int .i64 0, .int .u64 0, .int .u64 0] 44)) = W1 at X1 M1 hb1 hz1 hD1 hr1 hm1 ha1 ⊢
      have Bm : W1.heap[pm]? = some (PtO p) := hm1
      have Ba : W1.heap[pa]? = some (InO x) := ha1
      refine (HZ.out _ (HS.out.below hb1)).mono ?_
      rintro e2 w2 ⟨rfl, hb2⟩
      have hz2 := hb2.size
      have X2 := blk_below X1 hb2
      have M2 : MB w2 p P a c nx la false 0 := blk_below M1 hb2
      have Bm2 : w2.heap[pm]? = some (PtO p) := blk_below Bm hb2
      have Ba2 : w2.heap[pa]? = some (InO x) := blk_below Ba hb2
      have hb02 : Below w.heap.size w w2 := Below.then hb1 hb2 (by omega)
      clear X1 M1 Bm Ba hm1 ha1 hb2 hD1 hr1
      go_wp2_with fail
      have N3 : (w2.alloc (.cells #[.int .i64 zn] 3)).heap[w2.heap.size]? = some (InO zn) := (MapKept.heap_alloc w2 _).1
      have X3 := blk_alloc X2 (.cells #[.int .i64 zn] 3)
      have M3 : MB (w2.alloc (.cells #[.int .i64 zn] 3)) p P a c nx la false 0 := blk_alloc M2 _
      have Bm3 := blk_alloc Bm2 (.cells #[.int .i64 zn] 3)
      have Ba3 := blk_alloc Ba2 (.cells #[.int .i64 zn] 3)
      have hb03 : Below w.heap.size w (w2.alloc (.cells #[.int .i64 zn] 3)) := hb02.alloc (by omega) _
      have hz3 : w2.heap.size < (w2.alloc (.cells #[.int .i64 zn] 3)).heap.size := by simp
      generalize w2.alloc (.cells #[.int .i64 zn] 3) = W3 at N3 X3 M3 Bm3 Ba3 hb03 hz3 ⊢
      clear X2 M2 Bm2 Ba2 hb02 q0 m2
      have q0 : W3.cell? ⟨pm, 0, none⟩ = some (.pointer (some ⟨p, 0, none⟩)) := blk_cell Bm3 0 _ rfl
      have q1 : W3.cell? ⟨pa, 0, none⟩ = some (.int .i64 x) := blk_cell Ba3 0 _ rfl
      have q2 : W3.cell? ⟨w2.heap.size, 0, none⟩ = some (.int .i64 zn) := blk_cell N3 0 _ rfl
      have m1 : W3.cell? ⟨p, 1, none⟩ = some (.int .i64 P.sp) := blk_cell M3 1 _ rfl
      go_quiet (first | (go_at_call 107; exact Calls.quiet_of_same (HF.out _)))
      rename_i nq
      have X1 := blk_drewN X3 nq
      have M1 : MB (W3.drewN nq) p P a c nx la false 0 := blk_drewN M3 nq
      have Bm1 := blk_drewN Bm3 nq
      have Ba1 := blk_drewN Ba3 nq
      have N1 := blk_drewN N3 nq
      have hb1 : Below w.heap.size w (W3.drewN nq) := Below.drewN' hb03 nq
      have hz4 : W3.heap.size ≤ (W3.drewN nq).heap.size := (Below.drewN' (Below.refl W3.heap.size W3) nq).size
      generalize W3.drewN nq = W4 at X1 M1 Bm1 Ba1 N1 hb1 hz4 ⊢
      clear q0 q1 q2 m1 X3 M3 Bm3 Ba3 N3 hb03
      have hD1 : ∀ k, D k → k < W4.heap.size := fun k hk => Nat.lt_of_lt_of_le (HD.out k hk) hb1.size
      have hr1 : ∀ g, ro = some g → g < W4.heap.size := fun g hg => Nat.lt_of_lt_of_le (HRo.out g hg) hb1.size
      have q0 : W4.cell? ⟨pm, 0, none⟩ = some (.pointer (some ⟨p, 0, none⟩)) := blk_cell Bm1 0 _ rfl
      have q1 : W4.cell? ⟨pa, 0, none⟩ = some (.int .i64 x) := blk_cell Ba1 0 _ rfl
      go_wp2_with fail
      refine (HW.out _ M1 hD1 hr1).mono ?_
      rintro r w9 ⟨rfl, ho9, nx9, M9, N9⟩
      have hS : StTail D p ro P a c la W4 r0.st w9 := ⟨ho9, nx9, M9, N9⟩
      have X9 := ho9.blk (show ¬ w.heap.size = p by omega) X1
      have x0 : w9.cell? ⟨w.heap.size, 0, none⟩ = some (.int .i64 0) := blk_cell X9 0 _ rfl
      have x1 : w9.cell? ⟨w.heap.size, 1, none⟩ = some (.int .i64 0) := blk_cell X9 1 _ rfl
      have x2 : w9.cell? ⟨w.heap.size, 2, none⟩ = some (.int .u64 0) := blk_cell X9 2 _ rfl
      have x3 : w9.cell? ⟨w.heap.size, 3, none⟩ = some (.int .u64 0) := blk_cell X9 3 _ rfl
      have y0 := blk_fz X9 0
      have y1 := blk_fz X9 1
      have y2 := blk_fz X9 2
      have y3 := blk_fz X9 3
      have lX := blk_lt X9
      have HS := Lib.hid hS
      clear X9 X1 hS ho9 M9 N9
      go_wp2
      refine bodyPost_ret (v := .tuple #[.agg #[.int .i64 r0.k, .int .i64 r0.a, .int .u64 r0.o, .int .u64 r0.n], .bool r0.is]) (by simp [results, Try.results105, go_sem, World.cell?_setCell_same', cell_off, *]) rfl ⟨rfl, ?_⟩
      exact HS.out.off hb1 HD.out lp (by omega) (by omega) _ _ _ _

  · have e1 : (decide (ze = 0) && decide (zn ≤ P.sp - x)) = false := by rw [decide_eq_false hze, Bool.false_and]
    rw [e1, if_neg (by decide)]
    have g1 : (ze != 0) = true := bne_iff_ne.2 hze
    unfold StPost accV at HW
    unfold StPost accV
    generalize cWalk P s (x + 1) = r0 at HW ⊢
    have HW := Lib.hid HW
    have hw : IntKind.i64.wrap (x + 1) = x + 1 := IntWalk.i64_in _ (by omega)
    clear e1 hze hz10
    go_enter Try.func105, Try.ntmps105
    go_wp2_with fail
    have hm1 := HB.out _ _ hm
    have ha1 := HB.out _ _ ha
    have X1 : (w.alloc (.cells #[.int .i64 0, .int .i64 0, .int .u64 0, .int .u64 0] 44)).heap[w.heap.size]? = some (.cells #[.int .i64 0, .int .i64 0, .int .u64 0, .int .u64 0] 44 (0, 0)) := (MapKept.heap_alloc w _).1
    have M1 : MB (w.alloc (.cells #[.int .i64 0, .int .i64 0, .int .u64 0, .int .u64 0] 44)) p P a c nx la false 0 := blk_alloc HH.out _
    have hb1 : Below w.heap.size w (w.alloc (.cells #[.int .i64 0, .int .i64 0, .int .u64 0, .int .u64 0] 44)) := by (repeat (first | exact Below.refl _ _ | (with_reducible assumption) | refine Below.drew ?_ | refine Below.drewN' ?_ _ | refine Below.alloc ?_ (by first | omega | (simp; done) | (simp; omega)) _ | refine Below.setCell ?_ (by first | omega | (simp; done) | (simp; omega)) _ | refine Below.then ?_ hb9 (by first | omega | (simp; done) | (simp; omega)) | refine Below.then ?_ hb8 (by first | omega | (simp; done) | (simp; omega)) | refine Below.then ?_ hb7 (by first | omega | (simp; done) | (simp; omega)) | refine Below.then ?_ hb6 (by first | omega | (simp; done) | (simp; omega)) | refine Below.then ?_ hb5 (by first | omega | (simp; done) | (simp; omega)) | refine Below.then ?_ hb4 (by first | omega | (simp; done) | (simp; omega)) | refine Below.then ?_ hb3 (by first | omega | (simp; done) | (simp; omega)) | refine Below.then ?_ hb2 (by first | omega | (simp; done) | (simp; omega)) | refine Below.then ?_ hb1 (by first | omega | (simp; done) | (simp; omega))))
    have hz1 : w.heap.size < (w.alloc (.cells #[.int .i64 0, .int .i64 0, .int .u64 0, .int .u64 0] 44)).heap.size := by simp
    have hD1 : ∀ k, D k → k < (w.alloc (.cells #[.int .i64 0, .int .i64 0, .int .u64 0, .int .u64 0] 44)).heap.size := fun k hk => Nat.lt_of_lt_of_le (HD.out k hk) hb1.size
    have hr1 : ∀ g, ro = some g → g < (w.alloc (.cells #[.int .i64 0, .int .i64 0, .int .u64 0, .int .u64 0] 44)).heap.size := fun g hg => Nat.lt_of_lt_of_le (HRo.out g hg) hb1.size
    generalize (w.alloc (.cells #[.int .i64 0, .int .i64 0, .int .u64 0, .int .u64 0] 44)) = W1 at X1 M1 hb1 hz1 hD1 hr1 hm1 ha1 ⊢
    have Bm : W1.heap[pm]? = some (PtO p) := hm1
    have Ba : W1.heap[pa]? = some (InO x) := ha1
    refine (HZ.out _ (HS.out.below hb1)).mono ?_
    rintro e2 w2 ⟨rfl, hb2⟩
    have hz2 := hb2.size
    have X2 := blk_below X1 hb2
    have M2 : MB w2 p P a c nx la false 0 := blk_below M1 hb2
    have Bm2 : w2.heap[pm]? = some (PtO p) := blk_below Bm hb2
    have Ba2 : w2.heap[pa]? = some (InO x) := blk_below Ba hb2
    have hb02 : Below w.heap.size w w2 := Below.then hb1 hb2 (by omega)
    clear X1 M1 Bm Ba hm1 ha1 hb2 hD1 hr1
    go_wp2_with fail
    have N3 : (w2.alloc (.cells #[.int .i64 zn] 3)).heap[w2.heap.size]? = some (InO zn) := (MapKept.heap_alloc w2 _).1
    have X3 := blk_alloc X2 (.cells #[.int .i64 zn] 3)
    have M3 : MB (w2.alloc (.cells #[.int .i64 zn] 3)) p P a c nx la false 0 := blk_alloc M2 _
    have Bm3 := blk_alloc Bm2 (.cells #[.int .i64 zn] 3)
    have Ba3 := blk_alloc Ba2 (.cells #[.int .i64 zn] 3)
    have hb03 : Below w.heap.size w (w2.alloc (.cells #[.int .i64 zn] 3)) := hb02.alloc (by omega) _
    have hz3 : w2.heap.size < (w2.alloc (.cells #[.int .i64 zn] 3)).heap.size := by simp
    generalize w2.alloc (.cells #[.int .i64 zn] 3) = W3 at N3 X3 M3 Bm3 Ba3 hb03 hz3 ⊢
    clear X2 M2 Bm2 Ba2 hb02 q0 m2
    have q0 : W3.cell? ⟨pm, 0, none⟩ = some (.pointer (some ⟨p, 0, none⟩)) := blk_cell Bm3 0 _ rfl
    have q1 : W3.cell? ⟨pa, 0, none⟩ = some (.int .i64 x) := blk_cell Ba3 0 _ rfl
    have q2 : W3.cell? ⟨w2.heap.size, 0, none⟩ = some (.int .i64 zn) := blk_cell N3 0 _ rfl
    have m1 : W3.cell? ⟨p, 1, none⟩ = some (.int .i64 P.sp) := blk_cell M3 1 _ rfl
    go_quiet (fail)
    rename_i nq
    have X1 := blk_drewN X3 nq
    have M1 : MB (W3.drewN nq) p P a c nx la false 0 := blk_drewN M3 nq
    have Bm1 := blk_drewN Bm3 nq
    have Ba1 := blk_drewN Ba3 nq
    have N1 := blk_drewN N3 nq
    have hb1 : Below w.heap.size w (W3.drewN nq) := Below.drewN' hb03 nq
    have hz4 : W3.heap.size ≤ (W3.drewN nq).heap.size := (Below.drewN' (Below.refl W3.heap.size W3) nq).size
    generalize W3.drewN nq = W4 at X1 M1 Bm1 Ba1 N1 hb1 hz4 ⊢
    clear q0 q1 q2 m1 X3 M3 Bm3 Ba3 N3 hb03
    have hD1 : ∀ k, D k → k < W4.heap.size := fun k hk => Nat.lt_of_lt_of_le (HD.out k hk) hb1.size
    have hr1 : ∀ g, ro = some g → g < W4.heap.size := fun g hg => Nat.lt_of_lt_of_le (HRo.out g hg) hb1.size
    have q0 : W4.cell? ⟨pm, 0, none⟩ = some (.pointer (some ⟨p, 0, none⟩)) := blk_cell Bm1 0 _ rfl
    have q1 : W4.cell? ⟨pa, 0, none⟩ = some (.int .i64 x) := blk_cell Ba1 0 _ rfl
    go_wp2_with fail
    refine (HW.out _ M1 hD1 hr1).mono ?_
    rintro r w9 ⟨rfl, ho9, nx9, M9, N9⟩
    have hS : StTail D p ro P a c la W4 r0.st w9 := ⟨ho9, nx9, M9, N9⟩
    have X9 := ho9.blk (show ¬ w.heap.size = p by omega) X1
    have x0 : w9.cell? ⟨w.heap.size, 0, none⟩ = some (.int .i64 0) := blk_cell X9 0 _ rfl
    have x1 : w9.cell? ⟨w.heap.size, 1, none⟩ = some (.int .i64 0) := blk_cell X9 1 _ rfl
    have x2 : w9.cell? ⟨w.heap.size, 2, none⟩ = some (.int .u64 0) := blk_cell X9 2 _ rfl
    have x3 : w9.cell? ⟨w.heap.size, 3, none⟩ = some (.int .u64 0) := blk_cell X9 3 _ rfl
    have y0 := blk_fz X9 0
    have y1 := blk_fz X9 1
    have y2 := blk_fz X9 2
    have y3 := blk_fz X9 3
    have lX := blk_lt X9
    have HS := Lib.hid hS
    clear X9 X1 hS ho9 M9 N9
    go_wp2
    refine bodyPost_ret (v := .tuple #[.agg #[.int .i64 r0.k, .int .i64 r0.a, .int .u64 r0.o, .int .u64 r0.n], .bool r0.is]) (by simp [results, Try.results105, go_sem, World.cell?_setCell_same', cell_off, *]) rfl ⟨rfl, ?_⟩
    exact HS.out.off hb1 HD.out lp (by omega) (by omega) _ _ _ _

set_option maxRecDepth 100000 in
set_option maxHeartbeats 1600000 in
theorem wTurn1_calls (D : Nat → Prop) (p : Nat) (ro : Option Nat) (P : CPar) (a : Option Addr) (c : Nat) (nx la : Value) (s : CSt) (pm : Nat) (why : Int) (w : World) (h : MB w p P a c nx la false 0) (hD : ∀ k, D k → k < w.heap.size) (hr : ∀ g, ro = some g → g < w.heap.size) (hm : w.heap[pm]? = some (PtO p)) :
    Calls Try.prog 140 #[.int .i64 why, .pointer (some ⟨pm, 0, none⟩)] w (StPost D p ro P a c la w (cEnd s why)) := by
  have lp := blk_lt h
  have HH := Lib.hid h
  have HB := Lib.hid (fun (k : Nat) (o : Obj) (h : w.heap[k]? = some o) => blk_alloc h (.cells #[.int .i64 0, .int .i64 0, .int .u64 0, .int .u64 0] 44))
  have HD := Lib.hid hD
  have HRo := Lib.hid hr
  clear h hD hr
  unfold StPost cEnd accV
  dsimp only
  go_enter Try.func140, Try.ntmps140
  go_wp2_with fail
  have Bm := HB.out _ _ hm
  have X1 : (w.alloc (.cells #[.int .i64 0, .int .i64 0, .int .u64 0, .int .u64 0] 44)).heap[w.heap.size]? = some (.cells #[.int .i64 0, .int .i64 0, .int .u64 0, .int .u64 0] 44 (0, 0)) := (MapKept.heap_alloc w _).1
  have M1 : MB (w.alloc (.cells #[.int .i64 0, .int .i64 0, .int .u64 0, .int .u64 0] 44)) p P a c nx la false 0 := blk_alloc HH.out _
  have hb1 : Below w.heap.size w (w.alloc (.cells #[.int .i64 0, .int .i64 0, .int .u64 0, .int .u64 0] 44)) := by (repeat (first | exact Below.refl _ _ | (with_reducible assumption) | refine Below.drew ?_ | refine Below.drewN' ?_ _ | refine Below.alloc ?_ (by first | omega | (simp; done) | (simp; omega)) _ | refine Below.setCell ?_ (by first | omega | (simp; done) | (simp; omega)) _ | refine Below.then ?_ hb9 (by first | omega | (simp; done) | (simp; omega)) | refine Below.then ?_ hb8 (by first | omega | (simp; done) | (simp; omega)) | refine Below.then ?_ hb7 (by first | omega | (simp; done) | (simp; omega)) | refine Below.then ?_ hb6 (by first | omega | (simp; done) | (simp; omega)) | refine Below.then ?_ hb5 (by first | omega | (simp; done) | (simp; omega)) | refine Below.then ?_ hb4 (by first | omega | (simp; done) | (simp; omega)) | refine Below.then ?_ hb3 (by first | omega | (simp; done) | (simp; omega)) | refine Below.then ?_ hb2 (by first | omega | (simp; done) | (simp; omega)) | refine Below.then ?_ hb1 (by first | omega | (simp; done) | (simp; omega))))
  have hz1 : w.heap.size < (w.alloc (.cells #[.int .i64 0, .int .i64 0, .int .u64 0, .int .u64 0] 44)).heap.size := by simp
  have hD1 : ∀ k, D k → k < (w.alloc (.cells #[.int .i64 0, .int .i64 0, .int .u64 0, .int .u64 0] 44)).heap.size := fun k hk => Nat.lt_of_lt_of_le (HD.out k hk) hb1.size
  have hr1 : ∀ g, ro = some g → g < (w.alloc (.cells #[.int .i64 0, .int .i64 0, .int .u64 0, .int .u64 0] 44)).heap.size := fun g hg => Nat.lt_of_lt_of_le (HRo.out g hg) hb1.size
  generalize (w.alloc (.cells #[.int .i64 0, .int .i64 0, .int .u64 0, .int .u64 0] 44)) = W1 at X1 M1 hb1 hz1 hD1 hr1 Bm ⊢
  have q0 : W1.cell? ⟨pm, 0, none⟩ = some (.pointer (some ⟨p, 0, none⟩)) := blk_cell Bm 0 _ rfl
  have d0 : W1.drew.cell? ⟨pm, 0, none⟩ = some (.pointer (some ⟨p, 0, none⟩)) := q0
  have M1d : MB W1.drew p P a c nx la false 0 := blk_drew M1
  have lp1 : p < W1.drew.heap.size := blk_lt M1d
  have m7 : W1.drew.cell? ⟨p, 7, none⟩ = some nx := blk_cell M1d 7 _ rfl
  have m9 : W1.drew.cell? ⟨p, 9, none⟩ = some (.bool false) := blk_cell M1d 9 _ rfl
  have m10 : W1.drew.cell? ⟨p, 10, none⟩ = some (.int .i64 0) := blk_cell M1d 10 _ rfl
  have f7 := blk_fz M1d 7
  have f9 := blk_fz M1d 9
  have f10 := blk_fz M1d 10
  have lq := blk_lt M1
  have n7 : W1.cell? ⟨p, 7, none⟩ = some nx := blk_cell M1 7 _ rfl
  have n9 : W1.cell? ⟨p, 9, none⟩ = some (.bool false) := blk_cell M1 9 _ rfl
  have n10 : W1.cell? ⟨p, 10, none⟩ = some (.int .i64 0) := blk_cell M1 10 _ rfl
  have g7 := blk_fz M1 7
  have g9 := blk_fz M1 9
  have g10 := blk_fz M1 10
  have npm : ¬ pm = p := fun e => by
    have h1 := blk_drew Bm
    rw [e, M1d] at h1
    have h2 := congrArg (fun o => match o with | some (Obj.cells xs _ _) => xs[1]? | _ => none) h1
    cases h2
  clear hm
  go_region_held3 (fun A => A.cell? ⟨pm, 0, none⟩ = some (.pointer (some ⟨p, 0, none⟩))) (first | (with_reducible exact d0) | ((try simp only [drew_cell]); (repeat (rw [cell_blk _ _ _ _ _ _ (by omega)])); exact q0)) (fail)
  have X9 : (((W1.setCell ⟨p, 9, none⟩ (.bool true)).setCell ⟨p, 10, none⟩ (.int .i64 why)).setCell ⟨p, 7, none⟩ .nilFunc).drew.heap[w.heap.size]? = some (.cells #[.int .i64 0, .int .i64 0, .int .u64 0, .int .u64 0] 44 (0, 0)) :=
    blk_drew (blk_off (blk_off (blk_off X1 9 _ (by omega)) 10 _ (by omega)) 7 _ (by omega))
  have M9 : MB (((W1.setCell ⟨p, 9, none⟩ (.bool true)).setCell ⟨p, 10, none⟩ (.int .i64 why)).setCell ⟨p, 7, none⟩ .nilFunc).drew p P a c .nilFunc la true why :=
    blk_drew (blk_eq (blk_set (blk_set (blk_set M1 9 (.bool true)) 10 (.int .i64 why)) 7 .nilFunc) rfl)
  have hO : Only (· = p) w (((W1.setCell ⟨p, 9, none⟩ (.bool true)).setCell ⟨p, 10, none⟩ (.int .i64 why)).setCell ⟨p, 7, none⟩ .nilFunc).drew :=
    ((((Only.of (S := (· = p)) hb1).setCell (p := ⟨p, 9, none⟩) (.inl rfl) (.bool true)).setCell (p := ⟨p, 10, none⟩) (.inl rfl) (.int .i64 why)).setCell (p := ⟨p, 7, none⟩) (.inl rfl) .nilFunc).drew
  generalize (((W1.setCell ⟨p, 9, none⟩ (.bool true)).setCell ⟨p, 10, none⟩ (.int .i64 why)).setCell ⟨p, 7, none⟩ .nilFunc).drew = w9 at X9 M9 hO ⊢
  clear n7 n9 n10 g7 g9 g10 m7 m9 m10 f7 f9 f10 q0 d0 M1d lp1 lq
  have x0 : w9.cell? ⟨w.heap.size, 0, none⟩ = some (.int .i64 0) := blk_cell X9 0 _ rfl
  have x1 : w9.cell? ⟨w.heap.size, 1, none⟩ = some (.int .i64 0) := blk_cell X9 1 _ rfl
  have x2 : w9.cell? ⟨w.heap.size, 2, none⟩ = some (.int .u64 0) := blk_cell X9 2 _ rfl
  have x3 : w9.cell? ⟨w.heap.size, 3, none⟩ = some (.int .u64 0) := blk_cell X9 3 _ rfl
  have y0 := blk_fz X9 0
  have y1 := blk_fz X9 1
  have y2 := blk_fz X9 2
  have y3 := blk_fz X9 3
  have lX := blk_lt X9
  have HO := Lib.hid hO
  have HM := Lib.hid M9
  clear X9 M9 hO X1 M1 Bm
  go_wp2
  refine bodyPost_ret (v := .tuple #[.agg #[.int .i64 0, .int .i64 0, .int .u64 0, .int .u64 0], .bool false]) (by simp [results, Try.results140, go_sem, World.cell?_setCell_same', cell_off, *]) rfl ⟨rfl, ?_⟩
  exact StTail.mk9 (st := ⟨6, s.at_, s.was, why⟩) (nx' := .nilFunc) HO.out HM.out (show (Value.nilFunc = Value.nilFunc) from rfl) (Nat.le_refl _) lp _ _ _ _
theorem four_alloc (w : World) (o1 o2 o3 o4 : Obj) : ((((w.alloc o1).alloc o2).alloc o3).alloc o4).heap[w.heap.size]? = some o1 ∧ ((((w.alloc o1).alloc o2).alloc o3).alloc o4).heap[w.heap.size + 1]? = some o2 ∧ ((((w.alloc o1).alloc o2).alloc o3).alloc o4).heap[w.heap.size + 2]? = some o3 ∧ ((((w.alloc o1).alloc o2).alloc o3).alloc o4).heap[w.heap.size + 3]? = some o4 := by
  obtain ⟨h1, h2, h3⟩ := three_alloc w o1 o2 o3
  refine ⟨blk_alloc h1 _, blk_alloc h2 _, blk_alloc h3 _, ?_⟩
  have := (three_alloc (w.alloc o1) o2 o3 o4).2.2
  rw [show (w.alloc o1).heap.size = w.heap.size + 1 by simp] at this
  exact this
set_option maxRecDepth 100000 in
set_option maxHeartbeats 6400000 in
theorem wTurn_calls (D : Nat → Prop) (p : Nat) (ro : Option Nat) (P : CPar) (hP : CPOk P) (a : Option Addr) (c : Nat) (nx la : Value) (s : CSt) (he : s.err = 0) (was : Int) (hw0 : 0 ≤ was) (hw1 : was < 18446744073709551616) (w : World) (h : MB w p P a c nx la false 0) (hD : ∀ k, D k → k < w.heap.size) (hr : ∀ g, ro = some g → g < w.heap.size) :
    Calls Try.prog 124 #[.pointer (some ⟨p, 0, none⟩), .int .u64 was] w (StPost D p ro P a c la w (cTurn P s was)) := by
  have lp := blk_lt h
  have hbo := cBase_range hP hP.f
  have hby := cBase_range hP (s := 1 - P.fr) (by have := hP.f; omega)
  have s4 := hP.s4
  have HH := Lib.hid h
  have HD := Lib.hid hD
  have HRo := Lib.hid hr
  clear h hD hr
  have h5 := hP.h0
  have h6 := hP.h1
  have HF := fun W => pOfFront_calls was hw0 hw1 W
  have HT := fun why W h hD hr hm => wTurn1_calls D p ro P a c nx la s w.heap.size why W h hD hr hm
  unfold StPost cEnd accV at HT
  have HT := Lib.hid HT
  have hTB : turnB P was = (fwB was && decide (fwS was = P.fr) && decide (fwH was ≤ P.sp) && decide (fwO was ≤ P.hi)) := rfl
  have hRB : fwR was = if fwB was = true then 0 else 2 := rfl
  have hRi := turn_right hP (w := was)
  have hFR := frB_ok (fw_right was)
  have hfr := fw_right was
  obtain ⟨r0, hr0⟩ : ∃ r, cTurn P s was = r := ⟨_, rfl⟩
  rw [hr0]
  unfold cTurn at hr0
  unfold StPost accV
  generalize fwB was = fb at hTB hRB
  generalize fwR was = fR at HF hRB
  generalize fwS was = fs at HF hTB hFR hfr
  generalize fwL was = fl at HF hFR hfr
  generalize fwH was = fh at HF hTB hFR hfr
  generalize fwO was = fo at HF hTB hFR hfr hRi hr0
  have TU := fun W => pTurn_calls fs fl fh fo P.hi W
  have hTE : tuE fs fl fh fo P.hi = if P.hi < fo ∨ 4096 < P.hi then 4 else 0 := by unfold tuE; rw [hfr, if_pos rfl]
  have HF := Lib.hid HF
  obtain ⟨A1, B1, X1, E1⟩ := four_alloc w (.cells #[.pointer (some ⟨p, 0, none⟩)] 37) (.cells #[.int .u64 was] 41) (.cells #[.int .i64 0, .int .i64 0, .int .u64 0, .int .u64 0] 44) (.cells #[.func (.func 140) #[] #[.pointer (some ⟨w.heap.size, 0, none⟩)]] 230)
  have M1 : MB ((((w.alloc (.cells #[.pointer (some ⟨p, 0, none⟩)] 37)).alloc (.cells #[.int .u64 was] 41)).alloc (.cells #[.int .i64 0, .int .i64 0, .int .u64 0, .int .u64 0] 44)).alloc (.cells #[.func (.func 140) #[] #[.pointer (some ⟨w.heap.size, 0, none⟩)]] 230)) p P a c nx la false 0 := blk_alloc (blk_alloc (blk_alloc (blk_alloc HH.out _) _) _) _
  have hb1 : Below w.heap.size w ((((w.alloc (.cells #[.pointer (some ⟨p, 0, none⟩)] 37)).alloc (.cells #[.int .u64 was] 41)).alloc (.cells #[.int .i64 0, .int .i64 0, .int .u64 0, .int .u64 0] 44)).alloc (.cells #[.func (.func 140) #[] #[.pointer (some ⟨w.heap.size, 0, none⟩)]] 230)) := by (repeat (first | exact Below.refl _ _ | (with_reducible assumption) | refine Below.drew ?_ | refine Below.drewN' ?_ _ | refine Below.alloc ?_ (by first | omega | (simp; done) | (simp; omega)) _ | refine Below.setCell ?_ (by first | omega | (simp; done) | (simp; omega)) _ | refine Below.then ?_ hb9 (by first | omega | (simp; done) | (simp; omega)) | refine Below.then ?_ hb8 (by first | omega | (simp; done) | (simp; omega)) | refine Below.then ?_ hb7 (by first | omega | (simp; done) | (simp; omega)) | refine Below.then ?_ hb6 (by first | omega | (simp; done) | (simp; omega)) | refine Below.then ?_ hb5 (by first | omega | (simp; done) | (simp; omega)) | refine Below.then ?_ hb4 (by first | omega | (simp; done) | (simp; omega)) | refine Below.then ?_ hb3 (by first | omega | (simp; done) | (simp; omega)) | refine Below.then ?_ hb2 (by first | omega | (simp; done) | (simp; omega)) | refine Below.then ?_ hb1 (by first | omega | (simp; done) | (simp; omega))))
  have hz1 : w.heap.size + 3 < ((((w.alloc (.cells #[.pointer (some ⟨p, 0, none⟩)] 37)).alloc (.cells #[.int .u64 was] 41)).alloc (.cells #[.int .i64 0, .int .i64 0, .int .u64 0, .int .u64 0] 44)).alloc (.cells #[.func (.func 140) #[] #[.pointer (some ⟨w.heap.size, 0, none⟩)]] 230)).heap.size := by simp
  cases fb with
  | false =>
    rw [if_neg (by decide)] at hRB
    subst hRB
    have e1 : turnB P was = false := by rw [hTB]; rfl
    rw [e1, if_neg (by decide)] at hr0
    subst hr0
    clear e1 hTB TU hTE hRi
    have hmf : ∀ (fn : Fn) (first cap : Array Value) (w : World), (Instr.makeFunc fn first cap).run Try.prog w = .ok (.func fn first cap) w := fun _ _ _ _ => rfl
    go_enter Try.func124, Try.ntmps124
    go_wp2_with fail
    generalize ((((w.alloc (.cells #[.pointer (some ⟨p, 0, none⟩)] 37)).alloc (.cells #[.int .u64 was] 41)).alloc (.cells #[.int .i64 0, .int .i64 0, .int .u64 0, .int .u64 0] 44)).alloc (.cells #[.func (.func 140) #[] #[.pointer (some ⟨w.heap.size, 0, none⟩)]] 230)) = W1 at A1 B1 X1 E1 M1 hb1 hz1 ⊢
    refine (HF.out _).mono ?_
    rintro e2 w2 ⟨rfl, hb2⟩
    have hz2 := hb2.size
    have A2 := blk_below A1 hb2
    have B2 := blk_below B1 hb2
    have X2 := blk_below X1 hb2
    have E2 := blk_below E1 hb2
    have M2 : MB w2 p P a c nx la false 0 := blk_below M1 hb2
    have hb02 : Below w.heap.size w w2 := Below.then hb1 hb2 (by omega)
    clear A1 B1 X1 E1 M1 hb1 hb2
    go_wp2_with fail
    have N3 : (w2.alloc (.cells #[.int .i64 fs, .int .i64 fl, .int .i64 fh, .int .i64 fo] 26)).heap[w2.heap.size]? = some (.cells #[.int .i64 fs, .int .i64 fl, .int .i64 fh, .int .i64 fo] 26 (0, 0)) := (MapKept.heap_alloc w2 _).1
    have A3 := blk_alloc A2 (.cells #[.int .i64 fs, .int .i64 fl, .int .i64 fh, .int .i64 fo] 26)
    have B3 := blk_alloc B2 (.cells #[.int .i64 fs, .int .i64 fl, .int .i64 fh, .int .i64 fo] 26)
    have X3 := blk_alloc X2 (.cells #[.int .i64 fs, .int .i64 fl, .int .i64 fh, .int .i64 fo] 26)
    have E3 := blk_alloc E2 (.cells #[.int .i64 fs, .int .i64 fl, .int .i64 fh, .int .i64 fo] 26)
    have M3 : MB (w2.alloc (.cells #[.int .i64 fs, .int .i64 fl, .int .i64 fh, .int .i64 fo] 26)) p P a c nx la false 0 := blk_alloc M2 _
    have hb03 : Below w.heap.size w (w2.alloc (.cells #[.int .i64 fs, .int .i64 fl, .int .i64 fh, .int .i64 fo] 26)) := hb02.alloc (by omega) _
    have hz3 : w2.heap.size < (w2.alloc (.cells #[.int .i64 fs, .int .i64 fl, .int .i64 fh, .int .i64 fo] 26)).heap.size := by simp
    generalize w2.alloc (.cells #[.int .i64 fs, .int .i64 fl, .int .i64 fh, .int .i64 fo] 26) = W3 at N3 A3 B3 X3 E3 M3 hb03 hz3 ⊢
    clear A2 B2 X2 E2 M2 hb02
    have q0 : W3.cell? ⟨w.heap.size, 0, none⟩ = some (.pointer (some ⟨p, 0, none⟩)) := blk_cell A3 0 _ rfl
    have f0 : W3.cell? ⟨w2.heap.size, 0, none⟩ = some (.int .i64 fs) := blk_cell N3 0 _ rfl
    have f2 : W3.cell? ⟨w2.heap.size, 2, none⟩ = some (.int .i64 fh) := blk_cell N3 2 _ rfl
    have m1 : W3.cell? ⟨p, 1, none⟩ = some (.int .i64 P.sp) := blk_cell M3 1 _ rfl
    have m3 : W3.cell? ⟨p, 3, none⟩ = some (.int .i64 P.fr) := blk_cell M3 3 _ rfl
    go_quiet (fail)
    rename_i nq
    have A4 := blk_drewN A3 nq
    have B4 := blk_drewN B3 nq
    have X4 := blk_drewN X3 nq
    have E4 := blk_drewN E3 nq
    have N4 := blk_drewN N3 nq
    have M4 : MB (W3.drewN nq) p P a c nx la false 0 := blk_drewN M3 nq
    have hb4 : Below w.heap.size w (W3.drewN nq) := Below.drewN' hb03 nq
    have hz4 : W3.heap.size ≤ (W3.drewN nq).heap.size := (Below.drewN' (Below.refl W3.heap.size W3) nq).size
    generalize W3.drewN nq = W4 at A4 B4 X4 E4 N4 M4 hb4 hz4 ⊢
    clear q0 f0 f2 m1 m3 A3 B3 X3 E3 N3 M3 hb03
    have hD4 : ∀ k, D k → k < W4.heap.size := fun k hk => Nat.lt_of_lt_of_le (HD.out k hk) hb4.size
    have hr4 : ∀ g, ro = some g → g < W4.heap.size := fun g hg => Nat.lt_of_lt_of_le (HRo.out g hg) hb4.size
    have q0 : W4.cell? ⟨w.heap.size, 0, none⟩ = some (.pointer (some ⟨p, 0, none⟩)) := blk_cell A4 0 _ rfl
    have e0 : W4.cell? ⟨w.heap.size + 1 + 1 + 1, 0, none⟩ = some (.func (.func 140) #[] #[.pointer (some ⟨w.heap.size, 0, none⟩)]) := blk_cell E4 0 _ rfl
    go_wp2_with fail
    refine (HT.out 240 _ M4 hD4 hr4 A4).mono ?_
    rintro r w9 ⟨rfl, ho9, nx9, M9, N9⟩
    have hS : StTail D p ro P a c la W4 ⟨6, s.at_, s.was, 240⟩ w9 := ⟨ho9, nx9, M9, N9⟩
    have X9 := ho9.blk (show ¬ w.heap.size + 2 = p by omega) X4
    have x0 : w9.cell? ⟨w.heap.size + 2, 0, none⟩ = some (.int .i64 0) := blk_cell X9 0 _ rfl
    have x1 : w9.cell? ⟨w.heap.size + 2, 1, none⟩ = some (.int .i64 0) := blk_cell X9 1 _ rfl
    have x2 : w9.cell? ⟨w.heap.size + 2, 2, none⟩ = some (.int .u64 0) := blk_cell X9 2 _ rfl
    have x3 : w9.cell? ⟨w.heap.size + 2, 3, none⟩ = some (.int .u64 0) := blk_cell X9 3 _ rfl
    have y0 := blk_fz X9 0
    have y1 := blk_fz X9 1
    have y2 := blk_fz X9 2
    have y3 := blk_fz X9 3
    have lX := blk_lt X9
    have HS := Lib.hid hS
    clear X9 hS ho9 M9 N9 X4 A4 M4 B4 E4 N4 q0 e0
    go_wp2
    refine bodyPost_ret (v := .tuple #[.agg #[.int .i64 0, .int .i64 0, .int .u64 0, .int .u64 0], .bool false]) (by simp [results, Try.results124, go_sem, World.cell?_setCell_same', cell_off, *]) rfl ⟨rfl, ?_⟩
    exact HS.out.off hb4 HD.out lp (by omega) (by omega) _ _ _ _
  | true =>
    rw [if_pos rfl] at hRB
    subst hRB
    by_cases hs : fs = P.fr
    case neg =>
      have e1 : turnB P was = false := by rw [hTB, decide_eq_false hs]; rfl
      have g1 : (fs != P.fr) = true := bne_iff_ne.2 hs
      rw [e1, if_neg (by decide)] at hr0
      subst hr0
      clear e1 hTB TU hTE hRi hs
      have hmf : ∀ (fn : Fn) (first cap : Array Value) (w : World), (Instr.makeFunc fn first cap).run Try.prog w = .ok (.func fn first cap) w := fun _ _ _ _ => rfl
      go_enter Try.func124, Try.ntmps124
      go_wp2_with fail
      generalize ((((w.alloc (.cells #[.pointer (some ⟨p, 0, none⟩)] 37)).alloc (.cells #[.int .u64 was] 41)).alloc (.cells #[.int .i64 0, .int .i64 0, .int .u64 0, .int .u64 0] 44)).alloc (.cells #[.func (.func 140) #[] #[.pointer (some ⟨w.heap.size, 0, none⟩)]] 230)) = W1 at A1 B1 X1 E1 M1 hb1 hz1 ⊢
      refine (HF.out _).mono ?_
      rintro e2 w2 ⟨rfl, hb2⟩
      have hz2 := hb2.size
      have A2 := blk_below A1 hb2
      have B2 := blk_below B1 hb2
      have X2 := blk_below X1 hb2
      have E2 := blk_below E1 hb2
      have M2 : MB w2 p P a c nx la false 0 := blk_below M1 hb2
      have hb02 : Below w.heap.size w w2 := Below.then hb1 hb2 (by omega)
      clear A1 B1 X1 E1 M1 hb1 hb2
      go_wp2_with fail
      have N3 : (w2.alloc (.cells #[.int .i64 fs, .int .i64 fl, .int .i64 fh, .int .i64 fo] 26)).heap[w2.heap.size]? = some (.cells #[.int .i64 fs, .int .i64 fl, .int .i64 fh, .int .i64 fo] 26 (0, 0)) := (MapKept.heap_alloc w2 _).1
      have A3 := blk_alloc A2 (.cells #[.int .i64 fs, .int .i64 fl, .int .i64 fh, .int .i64 fo] 26)
      have B3 := blk_alloc B2 (.cells #[.int .i64 fs, .int .i64 fl, .int .i64 fh, .int .i64 fo] 26)
      have X3 := blk_alloc X2 (.cells #[.int .i64 fs, .int .i64 fl, .int .i64 fh, .int .i64 fo] 26)
      have E3 := blk_alloc E2 (.cells #[.int .i64 fs, .int .i64 fl, .int .i64 fh, .int .i64 fo] 26)
      have M3 : MB (w2.alloc (.cells #[.int .i64 fs, .int .i64 fl, .int .i64 fh, .int .i64 fo] 26)) p P a c nx la false 0 := blk_alloc M2 _
      have hb03 : Below w.heap.size w (w2.alloc (.cells #[.int .i64 fs, .int .i64 fl, .int .i64 fh, .int .i64 fo] 26)) := hb02.alloc (by omega) _
      have hz3 : w2.heap.size < (w2.alloc (.cells #[.int .i64 fs, .int .i64 fl, .int .i64 fh, .int .i64 fo] 26)).heap.size := by simp
      generalize w2.alloc (.cells #[.int .i64 fs, .int .i64 fl, .int .i64 fh, .int .i64 fo] 26) = W3 at N3 A3 B3 X3 E3 M3 hb03 hz3 ⊢
      clear A2 B2 X2 E2 M2 hb02
      have q0 : W3.cell? ⟨w.heap.size, 0, none⟩ = some (.pointer (some ⟨p, 0, none⟩)) := blk_cell A3 0 _ rfl
      have f0 : W3.cell? ⟨w2.heap.size, 0, none⟩ = some (.int .i64 fs) := blk_cell N3 0 _ rfl
      have f2 : W3.cell? ⟨w2.heap.size, 2, none⟩ = some (.int .i64 fh) := blk_cell N3 2 _ rfl
      have m1 : W3.cell? ⟨p, 1, none⟩ = some (.int .i64 P.sp) := blk_cell M3 1 _ rfl
      have m3 : W3.cell? ⟨p, 3, none⟩ = some (.int .i64 P.fr) := blk_cell M3 3 _ rfl
      go_quiet (fail)
      rename_i nq
      have A4 := blk_drewN A3 nq
      have B4 := blk_drewN B3 nq
      have X4 := blk_drewN X3 nq
      have E4 := blk_drewN E3 nq
      have N4 := blk_drewN N3 nq
      have M4 : MB (W3.drewN nq) p P a c nx la false 0 := blk_drewN M3 nq
      have hb4 : Below w.heap.size w (W3.drewN nq) := Below.drewN' hb03 nq
      have hz4 : W3.heap.size ≤ (W3.drewN nq).heap.size := (Below.drewN' (Below.refl W3.heap.size W3) nq).size
      generalize W3.drewN nq = W4 at A4 B4 X4 E4 N4 M4 hb4 hz4 ⊢
      clear q0 f0 f2 m1 m3 A3 B3 X3 E3 N3 M3 hb03
      have hD4 : ∀ k, D k → k < W4.heap.size := fun k hk => Nat.lt_of_lt_of_le (HD.out k hk) hb4.size
      have hr4 : ∀ g, ro = some g → g < W4.heap.size := fun g hg => Nat.lt_of_lt_of_le (HRo.out g hg) hb4.size
      have q0 : W4.cell? ⟨w.heap.size, 0, none⟩ = some (.pointer (some ⟨p, 0, none⟩)) := blk_cell A4 0 _ rfl
      have e0 : W4.cell? ⟨w.heap.size + 1 + 1 + 1, 0, none⟩ = some (.func (.func 140) #[] #[.pointer (some ⟨w.heap.size, 0, none⟩)]) := blk_cell E4 0 _ rfl
      go_wp2_with fail
      refine (HT.out 240 _ M4 hD4 hr4 A4).mono ?_
      rintro r w9 ⟨rfl, ho9, nx9, M9, N9⟩
      have hS : StTail D p ro P a c la W4 ⟨6, s.at_, s.was, 240⟩ w9 := ⟨ho9, nx9, M9, N9⟩
      have X9 := ho9.blk (show ¬ w.heap.size + 2 = p by omega) X4
      have x0 : w9.cell? ⟨w.heap.size + 2, 0, none⟩ = some (.int .i64 0) := blk_cell X9 0 _ rfl
      have x1 : w9.cell? ⟨w.heap.size + 2, 1, none⟩ = some (.int .i64 0) := blk_cell X9 1 _ rfl
      have x2 : w9.cell? ⟨w.heap.size + 2, 2, none⟩ = some (.int .u64 0) := blk_cell X9 2 _ rfl
      have x3 : w9.cell? ⟨w.heap.size + 2, 3, none⟩ = some (.int .u64 0) := blk_cell X9 3 _ rfl
      have y0 := blk_fz X9 0
      have y1 := blk_fz X9 1
      have y2 := blk_fz X9 2
      have y3 := blk_fz X9 3
      have lX := blk_lt X9
      have HS := Lib.hid hS
      clear X9 hS ho9 M9 N9 X4 A4 M4 B4 E4 N4 q0 e0
      go_wp2
      refine bodyPost_ret (v := .tuple #[.agg #[.int .i64 0, .int .i64 0, .int .u64 0, .int .u64 0], .bool false]) (by simp [results, Try.results124, go_sem, World.cell?_setCell_same', cell_off, *]) rfl ⟨rfl, ?_⟩
      exact HS.out.off hb4 HD.out lp (by omega) (by omega) _ _ _ _
    subst hs
    by_cases hh : fh ≤ P.sp
    case neg =>
      have e1 : turnB P was = false := by rw [hTB, decide_eq_false hh]; simp
      have g2 : decide (fh > P.sp) = true := decide_eq_true (by omega)
      have g3 : P.sp < fh := by omega
      rw [e1, if_neg (by decide)] at hr0
      subst hr0
      clear e1 hTB TU hTE hRi hh
      have hmf : ∀ (fn : Fn) (first cap : Array Value) (w : World), (Instr.makeFunc fn first cap).run Try.prog w = .ok (.func fn first cap) w := fun _ _ _ _ => rfl
      go_enter Try.func124, Try.ntmps124
      go_wp2_with fail
      generalize ((((w.alloc (.cells #[.pointer (some ⟨p, 0, none⟩)] 37)).alloc (.cells #[.int .u64 was] 41)).alloc (.cells #[.int .i64 0, .int .i64 0, .int .u64 0, .int .u64 0] 44)).alloc (.cells #[.func (.func 140) #[] #[.pointer (some ⟨w.heap.size, 0, none⟩)]] 230)) = W1 at A1 B1 X1 E1 M1 hb1 hz1 ⊢
      refine (HF.out _).mono ?_
      rintro e2 w2 ⟨rfl, hb2⟩
      have hz2 := hb2.size
      have A2 := blk_below A1 hb2
      have B2 := blk_below B1 hb2
      have X2 := blk_below X1 hb2
      have E2 := blk_below E1 hb2
      have M2 : MB w2 p P a c nx la false 0 := blk_below M1 hb2
      have hb02 : Below w.heap.size w w2 := Below.then hb1 hb2 (by omega)
      clear A1 B1 X1 E1 M1 hb1 hb2
      go_wp2_with fail
      have N3 : (w2.alloc (.cells #[.int .i64 P.fr, .int .i64 fl, .int .i64 fh, .int .i64 fo] 26)).heap[w2.heap.size]? = some (.cells #[.int .i64 P.fr, .int .i64 fl, .int .i64 fh, .int .i64 fo] 26 (0, 0)) := (MapKept.heap_alloc w2 _).1
      have A3 := blk_alloc A2 (.cells #[.int .i64 P.fr, .int .i64 fl, .int .i64 fh, .int .i64 fo] 26)
      have B3 := blk_alloc B2 (.cells #[.int .i64 P.fr, .int .i64 fl, .int .i64 fh, .int .i64 fo] 26)
      have X3 := blk_alloc X2 (.cells #[.int .i64 P.fr, .int .i64 fl, .int .i64 fh, .int .i64 fo] 26)
      have E3 := blk_alloc E2 (.cells #[.int .i64 P.fr, .int .i64 fl, .int .i64 fh, .int .i64 fo] 26)
      have M3 : MB (w2.alloc (.cells #[.int .i64 P.fr, .int .i64 fl, .int .i64 fh, .int .i64 fo] 26)) p P a c nx la false 0 := blk_alloc M2 _
      have hb03 : Below w.heap.size w (w2.alloc (.cells #[.int .i64 P.fr, .int .i64 fl, .int .i64 fh, .int .i64 fo] 26)) := hb02.alloc (by omega) _
      have hz3 : w2.heap.size < (w2.alloc (.cells #[.int .i64 P.fr, .int .i64 fl, .int .i64 fh, .int .i64 fo] 26)).heap.size := by simp
      generalize w2.alloc (.cells #[.int .i64 P.fr, .int .i64 fl, .int .i64 fh, .int .i64 fo] 26) = W3 at N3 A3 B3 X3 E3 M3 hb03 hz3 ⊢
      clear A2 B2 X2 E2 M2 hb02
      have q0 : W3.cell? ⟨w.heap.size, 0, none⟩ = some (.pointer (some ⟨p, 0, none⟩)) := blk_cell A3 0 _ rfl
      have f0 : W3.cell? ⟨w2.heap.size, 0, none⟩ = some (.int .i64 P.fr) := blk_cell N3 0 _ rfl
      have f2 : W3.cell? ⟨w2.heap.size, 2, none⟩ = some (.int .i64 fh) := blk_cell N3 2 _ rfl
      have m1 : W3.cell? ⟨p, 1, none⟩ = some (.int .i64 P.sp) := blk_cell M3 1 _ rfl
      have m3 : W3.cell? ⟨p, 3, none⟩ = some (.int .i64 P.fr) := blk_cell M3 3 _ rfl
      go_quiet (fail)
      rename_i nq
      have A4 := blk_drewN A3 nq
      have B4 := blk_drewN B3 nq
      have X4 := blk_drewN X3 nq
      have E4 := blk_drewN E3 nq
      have N4 := blk_drewN N3 nq
      have M4 : MB (W3.drewN nq) p P a c nx la false 0 := blk_drewN M3 nq
      have hb4 : Below w.heap.size w (W3.drewN nq) := Below.drewN' hb03 nq
      have hz4 : W3.heap.size ≤ (W3.drewN nq).heap.size := (Below.drewN' (Below.refl W3.heap.size W3) nq).size
      generalize W3.drewN nq = W4 at A4 B4 X4 E4 N4 M4 hb4 hz4 ⊢
      clear q0 f0 f2 m1 m3 A3 B3 X3 E3 N3 M3 hb03
      have hD4 : ∀ k, D k → k < W4.heap.size := fun k hk => Nat.lt_of_lt_of_le (HD.out k hk) hb4.size
      have hr4 : ∀ g, ro = some g → g < W4.heap.size := fun g hg => Nat.lt_of_lt_of_le (HRo.out g hg) hb4.size
      have q0 : W4.cell? ⟨w.heap.size, 0, none⟩ = some (.pointer (some ⟨p, 0, none⟩)) := blk_cell A4 0 _ rfl
      have e0 : W4.cell? ⟨w.heap.size + 1 + 1 + 1, 0, none⟩ = some (.func (.func 140) #[] #[.pointer (some ⟨w.heap.size, 0, none⟩)]) := blk_cell E4 0 _ rfl
      go_wp2_with fail
      refine (HT.out 240 _ M4 hD4 hr4 A4).mono ?_
      rintro r w9 ⟨rfl, ho9, nx9, M9, N9⟩
      have hS : StTail D p ro P a c la W4 ⟨6, s.at_, s.was, 240⟩ w9 := ⟨ho9, nx9, M9, N9⟩
      have X9 := ho9.blk (show ¬ w.heap.size + 2 = p by omega) X4
      have x0 : w9.cell? ⟨w.heap.size + 2, 0, none⟩ = some (.int .i64 0) := blk_cell X9 0 _ rfl
      have x1 : w9.cell? ⟨w.heap.size + 2, 1, none⟩ = some (.int .i64 0) := blk_cell X9 1 _ rfl
      have x2 : w9.cell? ⟨w.heap.size + 2, 2, none⟩ = some (.int .u64 0) := blk_cell X9 2 _ rfl
      have x3 : w9.cell? ⟨w.heap.size + 2, 3, none⟩ = some (.int .u64 0) := blk_cell X9 3 _ rfl
      have y0 := blk_fz X9 0
      have y1 := blk_fz X9 1
      have y2 := blk_fz X9 2
      have y3 := blk_fz X9 3
      have lX := blk_lt X9
      have HS := Lib.hid hS
      clear X9 hS ho9 M9 N9 X4 A4 M4 B4 E4 N4 q0 e0
      go_wp2
      refine bodyPost_ret (v := .tuple #[.agg #[.int .i64 0, .int .i64 0, .int .u64 0, .int .u64 0], .bool false]) (by simp [results, Try.results124, go_sem, World.cell?_setCell_same', cell_off, *]) rfl ⟨rfl, ?_⟩
      exact HS.out.off hb4 HD.out lp (by omega) (by omega) _ _ _ _
    have g3 : ¬ P.sp < fh := by omega
    by_cases ho : fo ≤ P.hi
    case neg =>
      have e1 : turnB P was = false := by rw [hTB, decide_eq_false ho, Bool.and_false]
      rw [e1, if_neg (by decide)] at hr0
      subst hr0
      have hte : tuE P.fr fl fh fo P.hi = 4 := by rw [hTE, if_pos (by omega)]
      have hts : tuV P.fr fl fh fo P.hi (1 - P.fr) = 0 := by unfold tuV; rw [hte]; rfl
      have hto : tuV P.fr fl fh fo P.hi fo = 0 := by unfold tuV; rw [hte]; rfl
      have hth : tuV P.fr fl fh fo P.hi P.hi = 0 := by unfold tuV; rw [hte]; rfl
      rw [hts, hto, hth, hte] at TU
      have TU := Lib.hid TU
      clear e1 hTB hTE hRi hts hto hth hte
      have hmf : ∀ (fn : Fn) (first cap : Array Value) (w : World), (Instr.makeFunc fn first cap).run Try.prog w = .ok (.func fn first cap) w := fun _ _ _ _ => rfl
      go_enter Try.func124, Try.ntmps124
      go_wp2_with fail
      generalize ((((w.alloc (.cells #[.pointer (some ⟨p, 0, none⟩)] 37)).alloc (.cells #[.int .u64 was] 41)).alloc (.cells #[.int .i64 0, .int .i64 0, .int .u64 0, .int .u64 0] 44)).alloc (.cells #[.func (.func 140) #[] #[.pointer (some ⟨w.heap.size, 0, none⟩)]] 230)) = W1 at A1 B1 X1 E1 M1 hb1 hz1 ⊢
      refine (HF.out _).mono ?_
      rintro e2 w2 ⟨rfl, hb2⟩
      have hz2 := hb2.size
      have A2 := blk_below A1 hb2
      have B2 := blk_below B1 hb2
      have X2 := blk_below X1 hb2
      have E2 := blk_below E1 hb2
      have M2 : MB w2 p P a c nx la false 0 := blk_below M1 hb2
      have hb02 : Below w.heap.size w w2 := Below.then hb1 hb2 (by omega)
      clear A1 B1 X1 E1 M1 hb1 hb2
      go_wp2_with fail
      have N3 : (w2.alloc (.cells #[.int .i64 P.fr, .int .i64 fl, .int .i64 fh, .int .i64 fo] 26)).heap[w2.heap.size]? = some (.cells #[.int .i64 P.fr, .int .i64 fl, .int .i64 fh, .int .i64 fo] 26 (0, 0)) := (MapKept.heap_alloc w2 _).1
      have A3 := blk_alloc A2 (.cells #[.int .i64 P.fr, .int .i64 fl, .int .i64 fh, .int .i64 fo] 26)
      have B3 := blk_alloc B2 (.cells #[.int .i64 P.fr, .int .i64 fl, .int .i64 fh, .int .i64 fo] 26)
      have X3 := blk_alloc X2 (.cells #[.int .i64 P.fr, .int .i64 fl, .int .i64 fh, .int .i64 fo] 26)
      have E3 := blk_alloc E2 (.cells #[.int .i64 P.fr, .int .i64 fl, .int .i64 fh, .int .i64 fo] 26)
      have M3 : MB (w2.alloc (.cells #[.int .i64 P.fr, .int .i64 fl, .int .i64 fh, .int .i64 fo] 26)) p P a c nx la false 0 := blk_alloc M2 _
      have hb03 : Below w.heap.size w (w2.alloc (.cells #[.int .i64 P.fr, .int .i64 fl, .int .i64 fh, .int .i64 fo] 26)) := hb02.alloc (by omega) _
      have hz3 : w2.heap.size < (w2.alloc (.cells #[.int .i64 P.fr, .int .i64 fl, .int .i64 fh, .int .i64 fo] 26)).heap.size := by simp
      generalize w2.alloc (.cells #[.int .i64 P.fr, .int .i64 fl, .int .i64 fh, .int .i64 fo] 26) = W3 at N3 A3 B3 X3 E3 M3 hb03 hz3 ⊢
      clear A2 B2 X2 E2 M2 hb02
      have q0 : W3.cell? ⟨w.heap.size, 0, none⟩ = some (.pointer (some ⟨p, 0, none⟩)) := blk_cell A3 0 _ rfl
      have f0 : W3.cell? ⟨w2.heap.size, 0, none⟩ = some (.int .i64 P.fr) := blk_cell N3 0 _ rfl
      have f2 : W3.cell? ⟨w2.heap.size, 2, none⟩ = some (.int .i64 fh) := blk_cell N3 2 _ rfl
      have m1 : W3.cell? ⟨p, 1, none⟩ = some (.int .i64 P.sp) := blk_cell M3 1 _ rfl
      have m3 : W3.cell? ⟨p, 3, none⟩ = some (.int .i64 P.fr) := blk_cell M3 3 _ rfl
      go_quiet (fail)
      rename_i nq
      have A4 := blk_drewN A3 nq
      have B4 := blk_drewN B3 nq
      have X4 := blk_drewN X3 nq
      have E4 := blk_drewN E3 nq
      have N4 := blk_drewN N3 nq
      have M4 : MB (W3.drewN nq) p P a c nx la false 0 := blk_drewN M3 nq
      have hb4 : Below w.heap.size w (W3.drewN nq) := Below.drewN' hb03 nq
      have hz4 : W3.heap.size ≤ (W3.drewN nq).heap.size := (Below.drewN' (Below.refl W3.heap.size W3) nq).size
      generalize W3.drewN nq = W4 at A4 B4 X4 E4 N4 M4 hb4 hz4 ⊢
      clear q0 f0 f2 m1 m3 A3 B3 X3 E3 N3 M3 hb03
      have hD4 : ∀ k, D k → k < W4.heap.size := fun k hk => Nat.lt_of_lt_of_le (HD.out k hk) hb4.size
      have hr4 : ∀ g, ro = some g → g < W4.heap.size := fun g hg => Nat.lt_of_lt_of_le (HRo.out g hg) hb4.size
      have q0 : W4.cell? ⟨w.heap.size, 0, none⟩ = some (.pointer (some ⟨p, 0, none⟩)) := blk_cell A4 0 _ rfl
      have e0 : W4.cell? ⟨w.heap.size + 1 + 1 + 1, 0, none⟩ = some (.func (.func 140) #[] #[.pointer (some ⟨w.heap.size, 0, none⟩)]) := blk_cell E4 0 _ rfl
      have f0 : W4.cell? ⟨w2.heap.size, 0, none⟩ = some (.int .i64 P.fr) := blk_cell N4 0 _ rfl
      have f1 : W4.cell? ⟨w2.heap.size, 1, none⟩ = some (.int .i64 fl) := blk_cell N4 1 _ rfl
      have f2 : W4.cell? ⟨w2.heap.size, 2, none⟩ = some (.int .i64 fh) := blk_cell N4 2 _ rfl
      have f3 : W4.cell? ⟨w2.heap.size, 3, none⟩ = some (.int .i64 fo) := blk_cell N4 3 _ rfl
      have m4 : W4.cell? ⟨p, 4, none⟩ = some (.int .i64 P.hi) := blk_cell M4 4 _ rfl
      have l2 := blk_lt N4
      have lw4 := blk_lt A4
      have lp4 := blk_lt M4
      have keepS : ∀ A B : World, Below W4.heap.size A B → A.cell? ⟨w2.heap.size, 0, none⟩ = some (.int .i64 P.fr) ∧ A.cell? ⟨w2.heap.size, 1, none⟩ = some (.int .i64 fl) ∧ A.cell? ⟨w2.heap.size, 2, none⟩ = some (.int .i64 fh) ∧ A.cell? ⟨w2.heap.size, 3, none⟩ = some (.int .i64 fo) ∧ A.cell? ⟨w.heap.size, 0, none⟩ = some (.pointer (some ⟨p, 0, none⟩)) ∧ A.cell? ⟨p, 4, none⟩ = some (.int .i64 P.hi) ∧ W4.heap.size ≤ A.heap.size → B.cell? ⟨w2.heap.size, 0, none⟩ = some (.int .i64 P.fr) ∧ B.cell? ⟨w2.heap.size, 1, none⟩ = some (.int .i64 fl) ∧ B.cell? ⟨w2.heap.size, 2, none⟩ = some (.int .i64 fh) ∧ B.cell? ⟨w2.heap.size, 3, none⟩ = some (.int .i64 fo) ∧ B.cell? ⟨w.heap.size, 0, none⟩ = some (.pointer (some ⟨p, 0, none⟩)) ∧ B.cell? ⟨p, 4, none⟩ = some (.int .i64 P.hi) ∧ W4.heap.size ≤ B.heap.size := fun A B hb hc => ⟨(hb.cell (p := ⟨w2.heap.size, 0, none⟩) l2).trans hc.1, (hb.cell (p := ⟨w2.heap.size, 1, none⟩) l2).trans hc.2.1, (hb.cell (p := ⟨w2.heap.size, 2, none⟩) l2).trans hc.2.2.1, (hb.cell (p := ⟨w2.heap.size, 3, none⟩) l2).trans hc.2.2.2.1, (hb.cell (p := ⟨w.heap.size, 0, none⟩) lw4).trans hc.2.2.2.2.1, (hb.cell (p := ⟨p, 4, none⟩) lp4).trans hc.2.2.2.2.2.1, Nat.le_trans hc.2.2.2.2.2.2 hb.size⟩
      have keepC := Lib.hid (show ∀ A B : World, Below A.heap.size A B → A.cell? ⟨w2.heap.size, 0, none⟩ = some (.int .i64 P.fr) ∧ A.cell? ⟨w2.heap.size, 1, none⟩ = some (.int .i64 fl) ∧ A.cell? ⟨w2.heap.size, 2, none⟩ = some (.int .i64 fh) ∧ A.cell? ⟨w2.heap.size, 3, none⟩ = some (.int .i64 fo) ∧ A.cell? ⟨w.heap.size, 0, none⟩ = some (.pointer (some ⟨p, 0, none⟩)) ∧ A.cell? ⟨p, 4, none⟩ = some (.int .i64 P.hi) ∧ W4.heap.size ≤ A.heap.size → B.cell? ⟨w2.heap.size, 0, none⟩ = some (.int .i64 P.fr) ∧ B.cell? ⟨w2.heap.size, 1, none⟩ = some (.int .i64 fl) ∧ B.cell? ⟨w2.heap.size, 2, none⟩ = some (.int .i64 fh) ∧ B.cell? ⟨w2.heap.size, 3, none⟩ = some (.int .i64 fo) ∧ B.cell? ⟨w.heap.size, 0, none⟩ = some (.pointer (some ⟨p, 0, none⟩)) ∧ B.cell? ⟨p, 4, none⟩ = some (.int .i64 P.hi) ∧ W4.heap.size ≤ B.heap.size from fun A B hb hc => keepS A B (hb.mono hc.2.2.2.2.2.2) hc)
      have keepA := Lib.hid (show ∀ (A : World) (x0 : Obj), A.cell? ⟨w2.heap.size, 0, none⟩ = some (.int .i64 P.fr) ∧ A.cell? ⟨w2.heap.size, 1, none⟩ = some (.int .i64 fl) ∧ A.cell? ⟨w2.heap.size, 2, none⟩ = some (.int .i64 fh) ∧ A.cell? ⟨w2.heap.size, 3, none⟩ = some (.int .i64 fo) ∧ A.cell? ⟨w.heap.size, 0, none⟩ = some (.pointer (some ⟨p, 0, none⟩)) ∧ A.cell? ⟨p, 4, none⟩ = some (.int .i64 P.hi) ∧ W4.heap.size ≤ A.heap.size → (A.alloc x0).cell? ⟨w2.heap.size, 0, none⟩ = some (.int .i64 P.fr) ∧ (A.alloc x0).cell? ⟨w2.heap.size, 1, none⟩ = some (.int .i64 fl) ∧ (A.alloc x0).cell? ⟨w2.heap.size, 2, none⟩ = some (.int .i64 fh) ∧ (A.alloc x0).cell? ⟨w2.heap.size, 3, none⟩ = some (.int .i64 fo) ∧ (A.alloc x0).cell? ⟨w.heap.size, 0, none⟩ = some (.pointer (some ⟨p, 0, none⟩)) ∧ (A.alloc x0).cell? ⟨p, 4, none⟩ = some (.int .i64 P.hi) ∧ W4.heap.size ≤ (A.alloc x0).heap.size from fun A x0 hc => keepS A _ ((Below.refl _ _).alloc hc.2.2.2.2.2.2 _) hc)
      have keepD := Lib.hid (show W4.drew.cell? ⟨w2.heap.size, 0, none⟩ = some (.int .i64 P.fr) ∧ W4.drew.cell? ⟨w2.heap.size, 1, none⟩ = some (.int .i64 fl) ∧ W4.drew.cell? ⟨w2.heap.size, 2, none⟩ = some (.int .i64 fh) ∧ W4.drew.cell? ⟨w2.heap.size, 3, none⟩ = some (.int .i64 fo) ∧ W4.drew.cell? ⟨w.heap.size, 0, none⟩ = some (.pointer (some ⟨p, 0, none⟩)) ∧ W4.drew.cell? ⟨p, 4, none⟩ = some (.int .i64 P.hi) ∧ W4.heap.size ≤ W4.drew.heap.size from keepS W4 _ (Below.refl _ _).drew ⟨f0, f1, f2, f3, q0, m4, Nat.le_refl _⟩)
      have keepE := Lib.hid (show ∀ (x0 : Obj), (W4.alloc x0).drew.cell? ⟨w2.heap.size, 0, none⟩ = some (.int .i64 P.fr) ∧ (W4.alloc x0).drew.cell? ⟨w2.heap.size, 1, none⟩ = some (.int .i64 fl) ∧ (W4.alloc x0).drew.cell? ⟨w2.heap.size, 2, none⟩ = some (.int .i64 fh) ∧ (W4.alloc x0).drew.cell? ⟨w2.heap.size, 3, none⟩ = some (.int .i64 fo) ∧ (W4.alloc x0).drew.cell? ⟨w.heap.size, 0, none⟩ = some (.pointer (some ⟨p, 0, none⟩)) ∧ (W4.alloc x0).drew.cell? ⟨p, 4, none⟩ = some (.int .i64 P.hi) ∧ W4.heap.size ≤ (W4.alloc x0).drew.heap.size from fun x0 => keepS W4 _ ((Below.refl _ _).alloc (Nat.le_refl _) _).drew ⟨f0, f1, f2, f3, q0, m4, Nat.le_refl _⟩)
      have keepT := Lib.hid (show ∀ (A : World) (d : Nat) (v0 v1 v2 v3 : Value), W4.heap.size ≤ d → A.cell? ⟨w2.heap.size, 0, none⟩ = some (.int .i64 P.fr) ∧ A.cell? ⟨w2.heap.size, 1, none⟩ = some (.int .i64 fl) ∧ A.cell? ⟨w2.heap.size, 2, none⟩ = some (.int .i64 fh) ∧ A.cell? ⟨w2.heap.size, 3, none⟩ = some (.int .i64 fo) ∧ A.cell? ⟨w.heap.size, 0, none⟩ = some (.pointer (some ⟨p, 0, none⟩)) ∧ A.cell? ⟨p, 4, none⟩ = some (.int .i64 P.hi) ∧ W4.heap.size ≤ A.heap.size → ((((A.setCell ⟨d, 0, none⟩ v0).setCell ⟨d, 1, none⟩ v1).setCell ⟨d, 2, none⟩ v2).setCell ⟨d, 3, none⟩ v3).cell? ⟨w2.heap.size, 0, none⟩ = some (.int .i64 P.fr) ∧ ((((A.setCell ⟨d, 0, none⟩ v0).setCell ⟨d, 1, none⟩ v1).setCell ⟨d, 2, none⟩ v2).setCell ⟨d, 3, none⟩ v3).cell? ⟨w2.heap.size, 1, none⟩ = some (.int .i64 fl) ∧ ((((A.setCell ⟨d, 0, none⟩ v0).setCell ⟨d, 1, none⟩ v1).setCell ⟨d, 2, none⟩ v2).setCell ⟨d, 3, none⟩ v3).cell? ⟨w2.heap.size, 2, none⟩ = some (.int .i64 fh) ∧ ((((A.setCell ⟨d, 0, none⟩ v0).setCell ⟨d, 1, none⟩ v1).setCell ⟨d, 2, none⟩ v2).setCell ⟨d, 3, none⟩ v3).cell? ⟨w2.heap.size, 3, none⟩ = some (.int .i64 fo) ∧ ((((A.setCell ⟨d, 0, none⟩ v0).setCell ⟨d, 1, none⟩ v1).setCell ⟨d, 2, none⟩ v2).setCell ⟨d, 3, none⟩ v3).cell? ⟨w.heap.size, 0, none⟩ = some (.pointer (some ⟨p, 0, none⟩)) ∧ ((((A.setCell ⟨d, 0, none⟩ v0).setCell ⟨d, 1, none⟩ v1).setCell ⟨d, 2, none⟩ v2).setCell ⟨d, 3, none⟩ v3).cell? ⟨p, 4, none⟩ = some (.int .i64 P.hi) ∧ W4.heap.size ≤ ((((A.setCell ⟨d, 0, none⟩ v0).setCell ⟨d, 1, none⟩ v1).setCell ⟨d, 2, none⟩ v2).setCell ⟨d, 3, none⟩ v3).heap.size from fun A d v0 v1 v2 v3 hd hc => keepS A _ ((((Below.refl _ _).setCell hd _).setCell hd _).setCell hd _ |>.setCell hd _) hc)
      have keepM := Lib.hid (show ∀ (A : World) (x0 x1 : Obj), W4.heap.size ≤ A.heap.size → (A.alloc x0).cell? ⟨w2.heap.size, 0, none⟩ = some (.int .i64 P.fr) ∧ (A.alloc x0).cell? ⟨w2.heap.size, 1, none⟩ = some (.int .i64 fl) ∧ (A.alloc x0).cell? ⟨w2.heap.size, 2, none⟩ = some (.int .i64 fh) ∧ (A.alloc x0).cell? ⟨w2.heap.size, 3, none⟩ = some (.int .i64 fo) ∧ (A.alloc x0).cell? ⟨w.heap.size, 0, none⟩ = some (.pointer (some ⟨p, 0, none⟩)) ∧ (A.alloc x0).cell? ⟨p, 4, none⟩ = some (.int .i64 P.hi) ∧ W4.heap.size ≤ (A.alloc x0).heap.size → (A.alloc x1).cell? ⟨w2.heap.size, 0, none⟩ = some (.int .i64 P.fr) ∧ (A.alloc x1).cell? ⟨w2.heap.size, 1, none⟩ = some (.int .i64 fl) ∧ (A.alloc x1).cell? ⟨w2.heap.size, 2, none⟩ = some (.int .i64 fh) ∧ (A.alloc x1).cell? ⟨w2.heap.size, 3, none⟩ = some (.int .i64 fo) ∧ (A.alloc x1).cell? ⟨w.heap.size, 0, none⟩ = some (.pointer (some ⟨p, 0, none⟩)) ∧ (A.alloc x1).cell? ⟨p, 4, none⟩ = some (.int .i64 P.hi) ∧ W4.heap.size ≤ (A.alloc x1).heap.size from fun A x0 x1 hle hc => keepS (A.alloc x0) _ ⟨rfl, rfl, rfl, by simp, fun k hk => by rw [Below.heap_alloc _ _ _ (by omega), Below.heap_alloc _ _ _ (by omega)]⟩ hc)
      clear keepS
      clear f0 f1 f2 f3 m4
      go_wp2_with fail
      refine Code.wp_mono (Q := fun e a W => e = Exit.normal ∧ ∃ X : Nat, a = (?frameOfA : Nat → Act) X ∧ (W.heap[X]? = some (.cells #[.int .i64 0, .int .i64 0, .int .i64 0, .int .i64 0] 26 (0, 0)) ∧ W4.heap.size ≤ X ∧ Below W4.heap.size W4 W)) ?impA ?regA
      case regA =>
        go_region_held3 (fun A => A.cell? ⟨w2.heap.size, 0, none⟩ = some (.int .i64 P.fr) ∧ A.cell? ⟨w2.heap.size, 1, none⟩ = some (.int .i64 fl) ∧ A.cell? ⟨w2.heap.size, 2, none⟩ = some (.int .i64 fh) ∧ A.cell? ⟨w2.heap.size, 3, none⟩ = some (.int .i64 fo) ∧ A.cell? ⟨w.heap.size, 0, none⟩ = some (.pointer (some ⟨p, 0, none⟩)) ∧ A.cell? ⟨p, 4, none⟩ = some (.int .i64 P.hi) ∧ W4.heap.size ≤ A.heap.size) (first | (with_reducible exact keepD.out) | (with_reducible exact keepE.out _) | (with_reducible refine keepT.out _ _ _ _ _ _ ?_ ?_; (first | omega | (simp; omega)); assumption) | (with_reducible refine keepC.out _ _ hb5 ?_; assumption) | (with_reducible refine keepM.out _ _ _ ?_ (by assumption); first | omega | (simp; omega)) | (with_reducible exact keepA.out _ _ (by assumption)) | exact keepD.out) (first | (go_at_call 142; refine (TU.out _).mono ?_; rintro e5 w5 ⟨rfl, hb5⟩; have hz5 := hb5.size; (try simp at hz5); (try (have zc := fun j => hb5.cell (p := ⟨W4.heap.size, j, none⟩) (by simp); have zf := fun j => hb5.frozen (p := ⟨W4.heap.size, j, none⟩) (by simp); have zq0 := zc 0; have zq1 := zc 1; have zq2 := zc 2; have zq3 := zc 3; have zf0 := zf 0; have zf1 := zf 1; have zf2 := zf 2; have zf3 := zf 3; simp [go_sem] at zq0 zq1 zq2 zq3 zf0 zf1 zf2 zf3; have zl : W4.heap.size < w5.heap.size := (by omega); clear zc zf))))
        · obtain ⟨X, hX⟩ : ∃ X, w5.heap.size = X := ⟨_, rfl⟩
          have hB4 : Below W4.heap.size W4 (w5.alloc (.cells #[.int .i64 0, .int .i64 0, .int .i64 0, .int .i64 0] 26)) := ((Below.refl _ _).drew.trans hb5).alloc hz5 _
          refine ⟨rfl, X, ?_, ⟨by rw [← hX]; exact (MapKept.heap_alloc w5 _).1, by omega, hB4⟩⟩
          rw [hX]
        · obtain ⟨X, hX⟩ : ∃ X, W4.heap.size = X := ⟨_, rfl⟩
          have hB3 : Below W4.heap.size W4 w5 := ((Below.refl _ _).alloc (Nat.le_refl _) _).drew.trans (hb5.mono (by simp))
          have hB4 := (((hB3.setCell (p := ⟨W4.heap.size, 0, none⟩) (Nat.le_refl _) (.int .i64 0)).setCell (p := ⟨W4.heap.size, 1, none⟩) (Nat.le_refl _) (.int .i64 0)).setCell (p := ⟨W4.heap.size, 2, none⟩) (Nat.le_refl _) (.int .i64 0)).setCell (p := ⟨W4.heap.size, 3, none⟩) (Nat.le_refl _) (.int .i64 0)
          refine ⟨rfl, X, ?_, ⟨by rw [← hX]; exact blk_eq (blk_set (blk_set (blk_set (blk_set (blk_below (blk_drew (MapKept.heap_alloc W4 _).1) hb5) 0 _) 1 _) 2 _) 3 _) rfl, by omega, hB4⟩⟩
          rw [hX]
      case impA =>
        rintro e ac W6 ⟨rfl, X, rfl, G6, hX, hb46⟩
        have A6 := blk_below A4 hb46
        have B6 := blk_below B4 hb46
        have X6 := blk_below X4 hb46
        have E6 := blk_below E4 hb46
        have M6 : MB W6 p P a c nx la false 0 := blk_below M4 hb46
        have hz6 := hb46.size
        have hb6 : Below w.heap.size w W6 := Below.then hb4 hb46 (by omega)
        clear A4 B4 X4 E4 N4 M4 hb4 hb46 hD4 hr4 q0 e0 keepA keepC keepD keepE keepT keepM
        have q0 : W6.cell? ⟨w.heap.size, 0, none⟩ = some (.pointer (some ⟨p, 0, none⟩)) := blk_cell A6 0 _ rfl
        have b0 : W6.cell? ⟨w.heap.size + 1, 0, none⟩ = some (.int .u64 was) := blk_cell B6 0 _ rfl
        have e0 : W6.cell? ⟨w.heap.size + 1 + 1 + 1, 0, none⟩ = some (.func (.func 140) #[] #[.pointer (some ⟨w.heap.size, 0, none⟩)]) := blk_cell E6 0 _ rfl
        have hD4 : ∀ k, D k → k < W6.heap.size := fun k hk => Nat.lt_of_lt_of_le (HD.out k hk) hb6.size
        have hr4 : ∀ g, ro = some g → g < W6.heap.size := fun g hg => Nat.lt_of_lt_of_le (HRo.out g hg) hb6.size
        have A4 := A6
        have B4 := B6
        have X4 := X6
        have E4 := E6
        have M4 : MB W6 p P a c nx la false 0 := M6
        have hb4 := hb6
        clear A6 B6 X6 E6 M6 G6
        go_wp2_with fail
        refine (HT.out 240 _ M4 hD4 hr4 A4).mono ?_
        rintro r w9 ⟨rfl, ho9, nx9, M9, N9⟩
        have hS : StTail D p ro P a c la W6 ⟨6, s.at_, s.was, 240⟩ w9 := ⟨ho9, nx9, M9, N9⟩
        have X9 := ho9.blk (show ¬ w.heap.size + 2 = p by omega) X4
        have x0 : w9.cell? ⟨w.heap.size + 2, 0, none⟩ = some (.int .i64 0) := blk_cell X9 0 _ rfl
        have x1 : w9.cell? ⟨w.heap.size + 2, 1, none⟩ = some (.int .i64 0) := blk_cell X9 1 _ rfl
        have x2 : w9.cell? ⟨w.heap.size + 2, 2, none⟩ = some (.int .u64 0) := blk_cell X9 2 _ rfl
        have x3 : w9.cell? ⟨w.heap.size + 2, 3, none⟩ = some (.int .u64 0) := blk_cell X9 3 _ rfl
        have y0 := blk_fz X9 0
        have y1 := blk_fz X9 1
        have y2 := blk_fz X9 2
        have y3 := blk_fz X9 3
        have lX := blk_lt X9
        have HS := Lib.hid hS
        clear X9 hS ho9 M9 N9 X4 A4 M4 B4 E4 q0 e0
        go_wp2
        refine bodyPost_ret (v := .tuple #[.agg #[.int .i64 0, .int .i64 0, .int .u64 0, .int .u64 0], .bool false]) (by simp [results, Try.results124, go_sem, World.cell?_setCell_same', cell_off, *]) rfl ⟨rfl, ?_⟩
        exact HS.out.off hb4 HD.out lp (by omega) (by omega) _ _ _ _
    have e1 : turnB P was = true := by rw [hTB, decide_eq_true hh, decide_eq_true ho]; simp
    rw [e1, if_pos rfl] at hr0
    have hRi := hRi e1
    subst hr0
    dsimp only
    have hte : tuE P.fr fl fh fo P.hi = 0 := by rw [hTE, if_neg (by omega)]
    have hts : tuV P.fr fl fh fo P.hi (1 - P.fr) = 1 - P.fr := by unfold tuV; rw [hte]; rfl
    have hto : tuV P.fr fl fh fo P.hi fo = fo := by unfold tuV; rw [hte]; rfl
    have hth : tuV P.fr fl fh fo P.hi P.hi = P.hi := by unfold tuV; rw [hte]; rfl
    rw [hts, hto, hth, hte] at TU
    have TU := Lib.hid TU
    have PF := fun W => pFront_calls (1 - P.fr) fo P.hi 0 W
    unfold frW frE at PF
    rw [if_pos hRi, if_pos hRi] at PF
    generalize frV (1 - P.fr) fo P.hi 0 = nv at PF ⊢
    have PF := Lib.hid PF
    have hT := fun W h => wTell_calls p P a c nx la false 0 144 #[] #[.pointer (some ⟨w.heap.size + 1, 0, none⟩), .pointer (some ⟨w.heap.size + 3, 0, none⟩), .pointer (some ⟨w.heap.size, 0, none⟩)] 3 1 was nv W h
    unfold accV at hT
    have hT := Lib.hid hT
    clear e1 hTB hTE hRi hts hto hth hte HT
    have hmf : ∀ (fn : Fn) (first cap : Array Value) (w : World), (Instr.makeFunc fn first cap).run Try.prog w = .ok (.func fn first cap) w := fun _ _ _ _ => rfl
    go_enter Try.func124, Try.ntmps124
    go_wp2_with fail
    generalize ((((w.alloc (.cells #[.pointer (some ⟨p, 0, none⟩)] 37)).alloc (.cells #[.int .u64 was] 41)).alloc (.cells #[.int .i64 0, .int .i64 0, .int .u64 0, .int .u64 0] 44)).alloc (.cells #[.func (.func 140) #[] #[.pointer (some ⟨w.heap.size, 0, none⟩)]] 230)) = W1 at A1 B1 X1 E1 M1 hb1 hz1 ⊢
    refine (HF.out _).mono ?_
    rintro e2 w2 ⟨rfl, hb2⟩
    have hz2 := hb2.size
    have A2 := blk_below A1 hb2
    have B2 := blk_below B1 hb2
    have X2 := blk_below X1 hb2
    have E2 := blk_below E1 hb2
    have M2 : MB w2 p P a c nx la false 0 := blk_below M1 hb2
    have hb02 : Below w.heap.size w w2 := Below.then hb1 hb2 (by omega)
    clear A1 B1 X1 E1 M1 hb1 hb2
    go_wp2_with fail
    have N3 : (w2.alloc (.cells #[.int .i64 P.fr, .int .i64 fl, .int .i64 fh, .int .i64 fo] 26)).heap[w2.heap.size]? = some (.cells #[.int .i64 P.fr, .int .i64 fl, .int .i64 fh, .int .i64 fo] 26 (0, 0)) := (MapKept.heap_alloc w2 _).1
    have A3 := blk_alloc A2 (.cells #[.int .i64 P.fr, .int .i64 fl, .int .i64 fh, .int .i64 fo] 26)
    have B3 := blk_alloc B2 (.cells #[.int .i64 P.fr, .int .i64 fl, .int .i64 fh, .int .i64 fo] 26)
    have X3 := blk_alloc X2 (.cells #[.int .i64 P.fr, .int .i64 fl, .int .i64 fh, .int .i64 fo] 26)
    have E3 := blk_alloc E2 (.cells #[.int .i64 P.fr, .int .i64 fl, .int .i64 fh, .int .i64 fo] 26)
    have M3 : MB (w2.alloc (.cells #[.int .i64 P.fr, .int .i64 fl, .int .i64 fh, .int .i64 fo] 26)) p P a c nx la false 0 := blk_alloc M2 _
    have hb03 : Below w.heap.size w (w2.alloc (.cells #[.int .i64 P.fr, .int .i64 fl, .int .i64 fh, .int .i64 fo] 26)) := hb02.alloc (by omega) _
    have hz3 : w2.heap.size < (w2.alloc (.cells #[.int .i64 P.fr, .int .i64 fl, .int .i64 fh, .int .i64 fo] 26)).heap.size := by simp
    generalize w2.alloc (.cells #[.int .i64 P.fr, .int .i64 fl, .int .i64 fh, .int .i64 fo] 26) = W3 at N3 A3 B3 X3 E3 M3 hb03 hz3 ⊢
    clear A2 B2 X2 E2 M2 hb02
    have q0 : W3.cell? ⟨w.heap.size, 0, none⟩ = some (.pointer (some ⟨p, 0, none⟩)) := blk_cell A3 0 _ rfl
    have f0 : W3.cell? ⟨w2.heap.size, 0, none⟩ = some (.int .i64 P.fr) := blk_cell N3 0 _ rfl
    have f2 : W3.cell? ⟨w2.heap.size, 2, none⟩ = some (.int .i64 fh) := blk_cell N3 2 _ rfl
    have m1 : W3.cell? ⟨p, 1, none⟩ = some (.int .i64 P.sp) := blk_cell M3 1 _ rfl
    have m3 : W3.cell? ⟨p, 3, none⟩ = some (.int .i64 P.fr) := blk_cell M3 3 _ rfl
    go_quiet (fail)
    rename_i nq
    have A4 := blk_drewN A3 nq
    have B4 := blk_drewN B3 nq
    have X4 := blk_drewN X3 nq
    have E4 := blk_drewN E3 nq
    have N4 := blk_drewN N3 nq
    have M4 : MB (W3.drewN nq) p P a c nx la false 0 := blk_drewN M3 nq
    have hb4 : Below w.heap.size w (W3.drewN nq) := Below.drewN' hb03 nq
    have hz4 : W3.heap.size ≤ (W3.drewN nq).heap.size := (Below.drewN' (Below.refl W3.heap.size W3) nq).size
    generalize W3.drewN nq = W4 at A4 B4 X4 E4 N4 M4 hb4 hz4 ⊢
    clear q0 f0 f2 m1 m3 A3 B3 X3 E3 N3 M3 hb03
    have hD4 : ∀ k, D k → k < W4.heap.size := fun k hk => Nat.lt_of_lt_of_le (HD.out k hk) hb4.size
    have hr4 : ∀ g, ro = some g → g < W4.heap.size := fun g hg => Nat.lt_of_lt_of_le (HRo.out g hg) hb4.size
    have q0 : W4.cell? ⟨w.heap.size, 0, none⟩ = some (.pointer (some ⟨p, 0, none⟩)) := blk_cell A4 0 _ rfl
    have e0 : W4.cell? ⟨w.heap.size + 1 + 1 + 1, 0, none⟩ = some (.func (.func 140) #[] #[.pointer (some ⟨w.heap.size, 0, none⟩)]) := blk_cell E4 0 _ rfl
    have f0 : W4.cell? ⟨w2.heap.size, 0, none⟩ = some (.int .i64 P.fr) := blk_cell N4 0 _ rfl
    have f1 : W4.cell? ⟨w2.heap.size, 1, none⟩ = some (.int .i64 fl) := blk_cell N4 1 _ rfl
    have f2 : W4.cell? ⟨w2.heap.size, 2, none⟩ = some (.int .i64 fh) := blk_cell N4 2 _ rfl
    have f3 : W4.cell? ⟨w2.heap.size, 3, none⟩ = some (.int .i64 fo) := blk_cell N4 3 _ rfl
    have m4 : W4.cell? ⟨p, 4, none⟩ = some (.int .i64 P.hi) := blk_cell M4 4 _ rfl
    have l2 := blk_lt N4
    have lw4 := blk_lt A4
    have lp4 := blk_lt M4
    have keepS : ∀ A B : World, Below W4.heap.size A B → A.cell? ⟨w2.heap.size, 0, none⟩ = some (.int .i64 P.fr) ∧ A.cell? ⟨w2.heap.size, 1, none⟩ = some (.int .i64 fl) ∧ A.cell? ⟨w2.heap.size, 2, none⟩ = some (.int .i64 fh) ∧ A.cell? ⟨w2.heap.size, 3, none⟩ = some (.int .i64 fo) ∧ A.cell? ⟨w.heap.size, 0, none⟩ = some (.pointer (some ⟨p, 0, none⟩)) ∧ A.cell? ⟨p, 4, none⟩ = some (.int .i64 P.hi) ∧ W4.heap.size ≤ A.heap.size → B.cell? ⟨w2.heap.size, 0, none⟩ = some (.int .i64 P.fr) ∧ B.cell? ⟨w2.heap.size, 1, none⟩ = some (.int .i64 fl) ∧ B.cell? ⟨w2.heap.size, 2, none⟩ = some (.int .i64 fh) ∧ B.cell? ⟨w2.heap.size, 3, none⟩ = some (.int .i64 fo) ∧ B.cell? ⟨w.heap.size, 0, none⟩ = some (.pointer (some ⟨p, 0, none⟩)) ∧ B.cell? ⟨p, 4, none⟩ = some (.int .i64 P.hi) ∧ W4.heap.size ≤ B.heap.size := fun A B hb hc => ⟨(hb.cell (p := ⟨w2.heap.size, 0, none⟩) l2).trans hc.1, (hb.cell (p := ⟨w2.heap.size, 1, none⟩) l2).trans hc.2.1, (hb.cell (p := ⟨w2.heap.size, 2, none⟩) l2).trans hc.2.2.1, (hb.cell (p := ⟨w2.heap.size, 3, none⟩) l2).trans hc.2.2.2.1, (hb.cell (p := ⟨w.heap.size, 0, none⟩) lw4).trans hc.2.2.2.2.1, (hb.cell (p := ⟨p, 4, none⟩) lp4).trans hc.2.2.2.2.2.1, Nat.le_trans hc.2.2.2.2.2.2 hb.size⟩
    have keepC := Lib.hid (show ∀ A B : World, Below A.heap.size A B → A.cell? ⟨w2.heap.size, 0, none⟩ = some (.int .i64 P.fr) ∧ A.cell? ⟨w2.heap.size, 1, none⟩ = some (.int .i64 fl) ∧ A.cell? ⟨w2.heap.size, 2, none⟩ = some (.int .i64 fh) ∧ A.cell? ⟨w2.heap.size, 3, none⟩ = some (.int .i64 fo) ∧ A.cell? ⟨w.heap.size, 0, none⟩ = some (.pointer (some ⟨p, 0, none⟩)) ∧ A.cell? ⟨p, 4, none⟩ = some (.int .i64 P.hi) ∧ W4.heap.size ≤ A.heap.size → B.cell? ⟨w2.heap.size, 0, none⟩ = some (.int .i64 P.fr) ∧ B.cell? ⟨w2.heap.size, 1, none⟩ = some (.int .i64 fl) ∧ B.cell? ⟨w2.heap.size, 2, none⟩ = some (.int .i64 fh) ∧ B.cell? ⟨w2.heap.size, 3, none⟩ = some (.int .i64 fo) ∧ B.cell? ⟨w.heap.size, 0, none⟩ = some (.pointer (some ⟨p, 0, none⟩)) ∧ B.cell? ⟨p, 4, none⟩ = some (.int .i64 P.hi) ∧ W4.heap.size ≤ B.heap.size from fun A B hb hc => keepS A B (hb.mono hc.2.2.2.2.2.2) hc)
    have keepA := Lib.hid (show ∀ (A : World) (x0 : Obj), A.cell? ⟨w2.heap.size, 0, none⟩ = some (.int .i64 P.fr) ∧ A.cell? ⟨w2.heap.size, 1, none⟩ = some (.int .i64 fl) ∧ A.cell? ⟨w2.heap.size, 2, none⟩ = some (.int .i64 fh) ∧ A.cell? ⟨w2.heap.size, 3, none⟩ = some (.int .i64 fo) ∧ A.cell? ⟨w.heap.size, 0, none⟩ = some (.pointer (some ⟨p, 0, none⟩)) ∧ A.cell? ⟨p, 4, none⟩ = some (.int .i64 P.hi) ∧ W4.heap.size ≤ A.heap.size → (A.alloc x0).cell? ⟨w2.heap.size, 0, none⟩ = some (.int .i64 P.fr) ∧ (A.alloc x0).cell? ⟨w2.heap.size, 1, none⟩ = some (.int .i64 fl) ∧ (A.alloc x0).cell? ⟨w2.heap.size, 2, none⟩ = some (.int .i64 fh) ∧ (A.alloc x0).cell? ⟨w2.heap.size, 3, none⟩ = some (.int .i64 fo) ∧ (A.alloc x0).cell? ⟨w.heap.size, 0, none⟩ = some (.pointer (some ⟨p, 0, none⟩)) ∧ (A.alloc x0).cell? ⟨p, 4, none⟩ = some (.int .i64 P.hi) ∧ W4.heap.size ≤ (A.alloc x0).heap.size from fun A x0 hc => keepS A _ ((Below.refl _ _).alloc hc.2.2.2.2.2.2 _) hc)
    have keepD := Lib.hid (show W4.drew.cell? ⟨w2.heap.size, 0, none⟩ = some (.int .i64 P.fr) ∧ W4.drew.cell? ⟨w2.heap.size, 1, none⟩ = some (.int .i64 fl) ∧ W4.drew.cell? ⟨w2.heap.size, 2, none⟩ = some (.int .i64 fh) ∧ W4.drew.cell? ⟨w2.heap.size, 3, none⟩ = some (.int .i64 fo) ∧ W4.drew.cell? ⟨w.heap.size, 0, none⟩ = some (.pointer (some ⟨p, 0, none⟩)) ∧ W4.drew.cell? ⟨p, 4, none⟩ = some (.int .i64 P.hi) ∧ W4.heap.size ≤ W4.drew.heap.size from keepS W4 _ (Below.refl _ _).drew ⟨f0, f1, f2, f3, q0, m4, Nat.le_refl _⟩)
    have keepE := Lib.hid (show ∀ (x0 : Obj), (W4.alloc x0).drew.cell? ⟨w2.heap.size, 0, none⟩ = some (.int .i64 P.fr) ∧ (W4.alloc x0).drew.cell? ⟨w2.heap.size, 1, none⟩ = some (.int .i64 fl) ∧ (W4.alloc x0).drew.cell? ⟨w2.heap.size, 2, none⟩ = some (.int .i64 fh) ∧ (W4.alloc x0).drew.cell? ⟨w2.heap.size, 3, none⟩ = some (.int .i64 fo) ∧ (W4.alloc x0).drew.cell? ⟨w.heap.size, 0, none⟩ = some (.pointer (some ⟨p, 0, none⟩)) ∧ (W4.alloc x0).drew.cell? ⟨p, 4, none⟩ = some (.int .i64 P.hi) ∧ W4.heap.size ≤ (W4.alloc x0).drew.heap.size from fun x0 => keepS W4 _ ((Below.refl _ _).alloc (Nat.le_refl _) _).drew ⟨f0, f1, f2, f3, q0, m4, Nat.le_refl _⟩)
    have keepT := Lib.hid (show ∀ (A : World) (d : Nat) (v0 v1 v2 v3 : Value), W4.heap.size ≤ d → A.cell? ⟨w2.heap.size, 0, none⟩ = some (.int .i64 P.fr) ∧ A.cell? ⟨w2.heap.size, 1, none⟩ = some (.int .i64 fl) ∧ A.cell? ⟨w2.heap.size, 2, none⟩ = some (.int .i64 fh) ∧ A.cell? ⟨w2.heap.size, 3, none⟩ = some (.int .i64 fo) ∧ A.cell? ⟨w.heap.size, 0, none⟩ = some (.pointer (some ⟨p, 0, none⟩)) ∧ A.cell? ⟨p, 4, none⟩ = some (.int .i64 P.hi) ∧ W4.heap.size ≤ A.heap.size → ((((A.setCell ⟨d, 0, none⟩ v0).setCell ⟨d, 1, none⟩ v1).setCell ⟨d, 2, none⟩ v2).setCell ⟨d, 3, none⟩ v3).cell? ⟨w2.heap.size, 0, none⟩ = some (.int .i64 P.fr) ∧ ((((A.setCell ⟨d, 0, none⟩ v0).setCell ⟨d, 1, none⟩ v1).setCell ⟨d, 2, none⟩ v2).setCell ⟨d, 3, none⟩ v3).cell? ⟨w2.heap.size, 1, none⟩ = some (.int .i64 fl) ∧ ((((A.setCell ⟨d, 0, none⟩ v0).setCell ⟨d, 1, none⟩ v1).setCell ⟨d, 2, none⟩ v2).setCell ⟨d, 3, none⟩ v3).cell? ⟨w2.heap.size, 2, none⟩ = some (.int .i64 fh) ∧ ((((A.setCell ⟨d, 0, none⟩ v0).setCell ⟨d, 1, none⟩ v1).setCell ⟨d, 2, none⟩ v2).setCell ⟨d, 3, none⟩ v3).cell? ⟨w2.heap.size, 3, none⟩ = some (.int .i64 fo) ∧ ((((A.setCell ⟨d, 0, none⟩ v0).setCell ⟨d, 1, none⟩ v1).setCell ⟨d, 2, none⟩ v2).setCell ⟨d, 3, none⟩ v3).cell? ⟨w.heap.size, 0, none⟩ = some (.pointer (some ⟨p, 0, none⟩)) ∧ ((((A.setCell ⟨d, 0, none⟩ v0).setCell ⟨d, 1, none⟩ v1).setCell ⟨d, 2, none⟩ v2).setCell ⟨d, 3, none⟩ v3).cell? ⟨p, 4, none⟩ = some (.int .i64 P.hi) ∧ W4.heap.size ≤ ((((A.setCell ⟨d, 0, none⟩ v0).setCell ⟨d, 1, none⟩ v1).setCell ⟨d, 2, none⟩ v2).setCell ⟨d, 3, none⟩ v3).heap.size from fun A d v0 v1 v2 v3 hd hc => keepS A _ ((((Below.refl _ _).setCell hd _).setCell hd _).setCell hd _ |>.setCell hd _) hc)
    have keepM := Lib.hid (show ∀ (A : World) (x0 x1 : Obj), W4.heap.size ≤ A.heap.size → (A.alloc x0).cell? ⟨w2.heap.size, 0, none⟩ = some (.int .i64 P.fr) ∧ (A.alloc x0).cell? ⟨w2.heap.size, 1, none⟩ = some (.int .i64 fl) ∧ (A.alloc x0).cell? ⟨w2.heap.size, 2, none⟩ = some (.int .i64 fh) ∧ (A.alloc x0).cell? ⟨w2.heap.size, 3, none⟩ = some (.int .i64 fo) ∧ (A.alloc x0).cell? ⟨w.heap.size, 0, none⟩ = some (.pointer (some ⟨p, 0, none⟩)) ∧ (A.alloc x0).cell? ⟨p, 4, none⟩ = some (.int .i64 P.hi) ∧ W4.heap.size ≤ (A.alloc x0).heap.size → (A.alloc x1).cell? ⟨w2.heap.size, 0, none⟩ = some (.int .i64 P.fr) ∧ (A.alloc x1).cell? ⟨w2.heap.size, 1, none⟩ = some (.int .i64 fl) ∧ (A.alloc x1).cell? ⟨w2.heap.size, 2, none⟩ = some (.int .i64 fh) ∧ (A.alloc x1).cell? ⟨w2.heap.size, 3, none⟩ = some (.int .i64 fo) ∧ (A.alloc x1).cell? ⟨w.heap.size, 0, none⟩ = some (.pointer (some ⟨p, 0, none⟩)) ∧ (A.alloc x1).cell? ⟨p, 4, none⟩ = some (.int .i64 P.hi) ∧ W4.heap.size ≤ (A.alloc x1).heap.size from fun A x0 x1 hle hc => keepS (A.alloc x0) _ ⟨rfl, rfl, rfl, by simp, fun k hk => by rw [Below.heap_alloc _ _ _ (by omega), Below.heap_alloc _ _ _ (by omega)]⟩ hc)
    clear keepS
    clear f0 f1 f2 f3 m4
    go_wp2_with fail
    refine Code.wp_mono (Q := fun e a W => e = Exit.normal ∧ ∃ X : Nat, a = (?frameOfT : Nat → Act) X ∧ (W.heap[X]? = some (.cells #[.int .i64 (1 - P.fr), .int .i64 fo, .int .i64 P.hi, .int .i64 0] 26 (0, 0)) ∧ W4.heap.size ≤ X ∧ Below W4.heap.size W4 W)) ?impT ?regT
    case regT =>
      go_region_held3 (fun A => A.cell? ⟨w2.heap.size, 0, none⟩ = some (.int .i64 P.fr) ∧ A.cell? ⟨w2.heap.size, 1, none⟩ = some (.int .i64 fl) ∧ A.cell? ⟨w2.heap.size, 2, none⟩ = some (.int .i64 fh) ∧ A.cell? ⟨w2.heap.size, 3, none⟩ = some (.int .i64 fo) ∧ A.cell? ⟨w.heap.size, 0, none⟩ = some (.pointer (some ⟨p, 0, none⟩)) ∧ A.cell? ⟨p, 4, none⟩ = some (.int .i64 P.hi) ∧ W4.heap.size ≤ A.heap.size) (first | (with_reducible exact keepD.out) | (with_reducible exact keepE.out _) | (with_reducible refine keepT.out _ _ _ _ _ _ ?_ ?_; (first | omega | (simp; omega)); assumption) | (with_reducible refine keepC.out _ _ hb5 ?_; assumption) | (with_reducible refine keepM.out _ _ _ ?_ (by assumption); first | omega | (simp; omega)) | (with_reducible exact keepA.out _ _ (by assumption)) | exact keepD.out) (first | (go_at_call 142; refine (TU.out _).mono ?_; rintro e5 w5 ⟨rfl, hb5⟩; have hz5 := hb5.size; (try simp at hz5); (try (have zc := fun j => hb5.cell (p := ⟨W4.heap.size, j, none⟩) (by simp); have zf := fun j => hb5.frozen (p := ⟨W4.heap.size, j, none⟩) (by simp); have zq0 := zc 0; have zq1 := zc 1; have zq2 := zc 2; have zq3 := zc 3; have zf0 := zf 0; have zf1 := zf 1; have zf2 := zf 2; have zf3 := zf 3; simp [go_sem] at zq0 zq1 zq2 zq3 zf0 zf1 zf2 zf3; have zl : W4.heap.size < w5.heap.size := (by omega); clear zc zf))))
      · obtain ⟨X, hX⟩ : ∃ X, w5.heap.size = X := ⟨_, rfl⟩
        have hB4 : Below W4.heap.size W4 (w5.alloc (.cells #[.int .i64 (1 - P.fr), .int .i64 fo, .int .i64 P.hi, .int .i64 0] 26)) := ((Below.refl _ _).drew.trans hb5).alloc hz5 _
        refine ⟨rfl, X, ?_, ⟨by rw [← hX]; exact (MapKept.heap_alloc w5 _).1, by omega, hB4⟩⟩
        rw [hX]
      · obtain ⟨X, hX⟩ : ∃ X, W4.heap.size = X := ⟨_, rfl⟩
        have hB3 : Below W4.heap.size W4 w5 := ((Below.refl _ _).alloc (Nat.le_refl _) _).drew.trans (hb5.mono (by simp))
        have hB4 := (((hB3.setCell (p := ⟨W4.heap.size, 0, none⟩) (Nat.le_refl _) (.int .i64 (1 - P.fr))).setCell (p := ⟨W4.heap.size, 1, none⟩) (Nat.le_refl _) (.int .i64 fo)).setCell (p := ⟨W4.heap.size, 2, none⟩) (Nat.le_refl _) (.int .i64 P.hi)).setCell (p := ⟨W4.heap.size, 3, none⟩) (Nat.le_refl _) (.int .i64 0)
        refine ⟨rfl, X, ?_, ⟨by rw [← hX]; exact blk_eq (blk_set (blk_set (blk_set (blk_set (blk_below (blk_drew (MapKept.heap_alloc W4 _).1) hb5) 0 _) 1 _) 2 _) 3 _) rfl, by omega, hB4⟩⟩
        rw [hX]
    case impT =>
      rintro e ac W6 ⟨rfl, X, rfl, G6, hX, hb46⟩
      have A6 := blk_below A4 hb46
      have B6 := blk_below B4 hb46
      have X6 := blk_below X4 hb46
      have E6 := blk_below E4 hb46
      have M6 : MB W6 p P a c nx la false 0 := blk_below M4 hb46
      have hz6 := hb46.size
      have hb6 : Below w.heap.size w W6 := Below.then hb4 hb46 (by omega)
      clear A4 B4 X4 E4 N4 M4 hb4 hb46 hD4 hr4 q0 e0 keepA keepC keepD keepE keepT keepM
      have q0 : W6.cell? ⟨w.heap.size, 0, none⟩ = some (.pointer (some ⟨p, 0, none⟩)) := blk_cell A6 0 _ rfl
      have b0 : W6.cell? ⟨w.heap.size + 1, 0, none⟩ = some (.int .u64 was) := blk_cell B6 0 _ rfl
      have e0 : W6.cell? ⟨w.heap.size + 1 + 1 + 1, 0, none⟩ = some (.func (.func 140) #[] #[.pointer (some ⟨w.heap.size, 0, none⟩)]) := blk_cell E6 0 _ rfl
      have g0 : W6.cell? ⟨X, 0, none⟩ = some (.int .i64 (1 - P.fr)) := blk_cell G6 0 _ rfl
      have g1 : W6.cell? ⟨X, 1, none⟩ = some (.int .i64 fo) := blk_cell G6 1 _ rfl
      have g2 : W6.cell? ⟨X, 2, none⟩ = some (.int .i64 P.hi) := blk_cell G6 2 _ rfl
      have g4 : W6.cell? ⟨X, 3, none⟩ = some (.int .i64 0) := blk_cell G6 3 _ rfl
      have lG := blk_lt G6
      go_wp2_with fail
      refine (PF.out _).mono ?_
      rintro e7 w7 ⟨rfl, hb7⟩
      have A7 := blk_below A6 hb7
      have B7 := blk_below B6 hb7
      have X7 := blk_below X6 hb7
      have E7 := blk_below E6 hb7
      have M7 : MB w7 p P a c nx la false 0 := blk_below M6 hb7
      have hz7 := hb7.size
      have hb17 : Below w.heap.size w w7 := Below.then hb6 hb7 (by omega)
      clear A6 B6 X6 E6 M6 G6 hb6 hb7 q0 b0 e0 g0 g1 g2 g4 lG
      have q0 : w7.cell? ⟨w.heap.size, 0, none⟩ = some (.pointer (some ⟨p, 0, none⟩)) := blk_cell A7 0 _ rfl
      have b0 : w7.cell? ⟨w.heap.size + 1, 0, none⟩ = some (.int .u64 was) := blk_cell B7 0 _ rfl
      go_wp2_with fail
      refine (hT.out _ M7).mono ?_
      rintro r w9 ⟨rfl, ho9, M9⟩
      have X9 := ho9.blk (show ¬ w.heap.size + 2 = p by omega) X7
      have x0 : w9.cell? ⟨w.heap.size + 2, 0, none⟩ = some (.int .i64 0) := blk_cell X9 0 _ rfl
      have x1 : w9.cell? ⟨w.heap.size + 2, 1, none⟩ = some (.int .i64 0) := blk_cell X9 1 _ rfl
      have x2 : w9.cell? ⟨w.heap.size + 2, 2, none⟩ = some (.int .u64 0) := blk_cell X9 2 _ rfl
      have x3 : w9.cell? ⟨w.heap.size + 2, 3, none⟩ = some (.int .u64 0) := blk_cell X9 3 _ rfl
      have y0 := blk_fz X9 0
      have y1 := blk_fz X9 1
      have y2 := blk_fz X9 2
      have y3 := blk_fz X9 3
      have lX := blk_lt X9
      have HO := Lib.hid ((Only.of hb17).trans ho9)
      have HN := Lib.hid (show NxP w9 (fun k => (D k ∨ w.heap.size ≤ k) ∧ k ≠ w.heap.size + 2) p ro ⟨5, s.at_, was, s.err⟩ (fnTurn2 (w.heap.size + 1) (w.heap.size + 3) w.heap.size) from
        ⟨w.heap.size + 1, w.heap.size + 3, w.heap.size, rfl, ⟨⟨.inr (by omega), by omega⟩, by omega, fun e => by have := HRo.out _ e; omega, ho9.blk (show ¬ w.heap.size + 1 = p by omega) B7⟩, ⟨⟨.inr (by omega), by omega⟩, by omega, fun e => by have := HRo.out _ e; omega, ho9.blk (show ¬ w.heap.size + 3 = p by omega) E7⟩, ⟨⟨.inr (by omega), by omega⟩, by omega, fun e => by have := HRo.out _ e; omega, ho9.blk (show ¬ w.heap.size = p by omega) A7⟩⟩)
      have HM := Lib.hid M9
      clear X9 M9 ho9 A7 B7 X7 E7 M7 hb17 q0 b0
      go_wp2
      refine bodyPost_ret (v := .tuple #[.agg #[.int .i64 3, .int .i64 1, .int .u64 was, .int .u64 nv], .bool true]) (by simp [results, Try.results124, go_sem, World.cell?_setCell_same', cell_off, *]) rfl ⟨rfl, ?_⟩
      exact StTail.mk9 HO.out (by rw [he]; exact HM.out) HN.out (by omega) lp _ _ _ _

set_option maxRecDepth 100000 in
set_option maxHeartbeats 1600000 in
theorem wTurn2_calls (D : Nat → Prop) (p : Nat) (ro : Option Nat) (P : CPar) (hP : CPOk P) (a : Option Addr) (c : Nat) (nx la : Value) (s : CSt) (he : s.err = 0) (pw pe pm : Nat) (was ans : Int) (ha0 : 0 ≤ ans) (ha1 : ans < 18446744073709551616) (w : World) (h : MB w p P a c nx la false 0) (hD : ∀ k, D k → k < w.heap.size) (hr : ∀ g, ro = some g → g < w.heap.size) (hw : w.heap[pw]? = some (WdO was)) (hf : w.heap[pe]? = some (FeO (fnTurn1 pm))) (hm : w.heap[pm]? = some (PtO p)) :
    Calls Try.prog 144 #[.int .u64 ans, .pointer (some ⟨pw, 0, none⟩), .pointer (some ⟨pe, 0, none⟩), .pointer (some ⟨pm, 0, none⟩)] w (StPost D p ro P a c la w (if ans = was then cEnd s 0 else cTurn P s ans)) := by
  have lp := blk_lt h
  have hbo := cBase_range hP hP.f
  have hby := cBase_range hP (s := 1 - P.fr) (by have := hP.f; omega)
  have s4 := hP.s4
  have HH := Lib.hid h
  have HD := Lib.hid hD
  have HRo := Lib.hid hr
  clear h hD hr
  have HB := Lib.hid (fun (k : Nat) (o : Obj) (h : w.heap[k]? = some o) => blk_alloc h (.cells #[.int .i64 0, .int .i64 0, .int .u64 0, .int .u64 0] 44))
  have q0 : w.cell? ⟨pw, 0, none⟩ = some (.int .u64 was) := blk_cell hw 0 _ rfl
  have q1 : w.cell? ⟨pe, 0, none⟩ = some (fnTurn1 pm) := blk_cell hf 0 _ rfl
  have q2 : w.cell? ⟨pm, 0, none⟩ = some (.pointer (some ⟨p, 0, none⟩)) := blk_cell hm 0 _ rfl
  unfold fnTurn1 at q1
  have l0 := blk_lt hw
  have l1 := blk_lt hf
  have l2 := blk_lt hm
  by_cases h : ans = was
  · subst h
    rw [if_pos rfl]
    have HT := fun W h hD hr hm => wTurn1_calls D p ro P a c nx la s pm 0 W h hD hr hm
    unfold StPost at HT ⊢
    unfold accV at HT ⊢
    generalize cEnd s 0 = r0 at HT ⊢
    have HT := Lib.hid HT
    go_enter Try.func144, Try.ntmps144
    have Bm := HB.out _ _ hm
    go_wp2_with fail
    have X1 : (w.alloc (.cells #[.int .i64 0, .int .i64 0, .int .u64 0, .int .u64 0] 44)).heap[w.heap.size]? = some (.cells #[.int .i64 0, .int .i64 0, .int .u64 0, .int .u64 0] 44 (0, 0)) := (MapKept.heap_alloc w _).1
    have M1 : MB (w.alloc (.cells #[.int .i64 0, .int .i64 0, .int .u64 0, .int .u64 0] 44)) p P a c nx la false 0 := blk_alloc HH.out _
    have hb1 : Below w.heap.size w (w.alloc (.cells #[.int .i64 0, .int .i64 0, .int .u64 0, .int .u64 0] 44)) := by (repeat (first | exact Below.refl _ _ | (with_reducible assumption) | refine Below.drew ?_ | refine Below.drewN' ?_ _ | refine Below.alloc ?_ (by first | omega | (simp; done) | (simp; omega)) _ | refine Below.setCell ?_ (by first | omega | (simp; done) | (simp; omega)) _ | refine Below.then ?_ hb9 (by first | omega | (simp; done) | (simp; omega)) | refine Below.then ?_ hb8 (by first | omega | (simp; done) | (simp; omega)) | refine Below.then ?_ hb7 (by first | omega | (simp; done) | (simp; omega)) | refine Below.then ?_ hb6 (by first | omega | (simp; done) | (simp; omega)) | refine Below.then ?_ hb5 (by first | omega | (simp; done) | (simp; omega)) | refine Below.then ?_ hb4 (by first | omega | (simp; done) | (simp; omega)) | refine Below.then ?_ hb3 (by first | omega | (simp; done) | (simp; omega)) | refine Below.then ?_ hb2 (by first | omega | (simp; done) | (simp; omega)) | refine Below.then ?_ hb1 (by first | omega | (simp; done) | (simp; omega))))
    have hz1 : w.heap.size < (w.alloc (.cells #[.int .i64 0, .int .i64 0, .int .u64 0, .int .u64 0] 44)).heap.size := by simp
    have hD1 : ∀ k, D k → k < (w.alloc (.cells #[.int .i64 0, .int .i64 0, .int .u64 0, .int .u64 0] 44)).heap.size := fun k hk => Nat.lt_of_lt_of_le (HD.out k hk) hb1.size
    have hr1 : ∀ g, ro = some g → g < (w.alloc (.cells #[.int .i64 0, .int .i64 0, .int .u64 0, .int .u64 0] 44)).heap.size := fun g hg => Nat.lt_of_lt_of_le (HRo.out g hg) hb1.size
    generalize (w.alloc (.cells #[.int .i64 0, .int .i64 0, .int .u64 0, .int .u64 0] 44)) = W1 at X1 M1 hb1 hz1 hD1 hr1 Bm ⊢
    refine (HT.out _ M1 hD1 hr1 Bm).mono ?_
    rintro r w9 ⟨rfl, ho9, nx9, M9, N9⟩
    have hS : StTail D p ro P a c la W1 r0.st w9 := ⟨ho9, nx9, M9, N9⟩
    have X9 := ho9.blk (show ¬ w.heap.size = p by omega) X1
    have x0 : w9.cell? ⟨w.heap.size, 0, none⟩ = some (.int .i64 0) := blk_cell X9 0 _ rfl
    have x1 : w9.cell? ⟨w.heap.size, 1, none⟩ = some (.int .i64 0) := blk_cell X9 1 _ rfl
    have x2 : w9.cell? ⟨w.heap.size, 2, none⟩ = some (.int .u64 0) := blk_cell X9 2 _ rfl
    have x3 : w9.cell? ⟨w.heap.size, 3, none⟩ = some (.int .u64 0) := blk_cell X9 3 _ rfl
    have y0 := blk_fz X9 0
    have y1 := blk_fz X9 1
    have y2 := blk_fz X9 2
    have y3 := blk_fz X9 3
    have lX := blk_lt X9
    have HS := Lib.hid hS
    clear X9 X1 hS ho9 M9 N9
    go_wp2
    refine bodyPost_ret (v := .tuple #[.agg #[.int .i64 r0.k, .int .i64 r0.a, .int .u64 r0.o, .int .u64 r0.n], .bool r0.is]) (by simp [results, Try.results144, go_sem, World.cell?_setCell_same', cell_off, *]) rfl ⟨rfl, ?_⟩
    exact HS.out.off hb1 HD.out lp (by omega) (by omega) _ _ _ _
  · rw [if_neg h]
    have g1 : (ans == was) = false := beq_eq_false_iff_ne.2 h
    have HT := fun W h hD hr => wTurn_calls D p ro P hP a c nx la s he ans ha0 ha1 W h hD hr
    unfold StPost at HT ⊢
    unfold accV at HT ⊢
    generalize cTurn P s ans = r0 at HT ⊢
    have HT := Lib.hid HT
    clear h
    go_enter Try.func144, Try.ntmps144
    go_wp2_with fail
    have X1 : (w.alloc (.cells #[.int .i64 0, .int .i64 0, .int .u64 0, .int .u64 0] 44)).heap[w.heap.size]? = some (.cells #[.int .i64 0, .int .i64 0, .int .u64 0, .int .u64 0] 44 (0, 0)) := (MapKept.heap_alloc w _).1
    have M1 : MB (w.alloc (.cells #[.int .i64 0, .int .i64 0, .int .u64 0, .int .u64 0] 44)) p P a c nx la false 0 := blk_alloc HH.out _
    have hb1 : Below w.heap.size w (w.alloc (.cells #[.int .i64 0, .int .i64 0, .int .u64 0, .int .u64 0] 44)) := by (repeat (first | exact Below.refl _ _ | (with_reducible assumption) | refine Below.drew ?_ | refine Below.drewN' ?_ _ | refine Below.alloc ?_ (by first | omega | (simp; done) | (simp; omega)) _ | refine Below.setCell ?_ (by first | omega | (simp; done) | (simp; omega)) _ | refine Below.then ?_ hb9 (by first | omega | (simp; done) | (simp; omega)) | refine Below.then ?_ hb8 (by first | omega | (simp; done) | (simp; omega)) | refine Below.then ?_ hb7 (by first | omega | (simp; done) | (simp; omega)) | refine Below.then ?_ hb6 (by first | omega | (simp; done) | (simp; omega)) | refine Below.then ?_ hb5 (by first | omega | (simp; done) | (simp; omega)) | refine Below.then ?_ hb4 (by first | omega | (simp; done) | (simp; omega)) | refine Below.then ?_ hb3 (by first | omega | (simp; done) | (simp; omega)) | refine Below.then ?_ hb2 (by first | omega | (simp; done) | (simp; omega)) | refine Below.then ?_ hb1 (by first | omega | (simp; done) | (simp; omega))))
    have hz1 : w.heap.size < (w.alloc (.cells #[.int .i64 0, .int .i64 0, .int .u64 0, .int .u64 0] 44)).heap.size := by simp
    have hD1 : ∀ k, D k → k < (w.alloc (.cells #[.int .i64 0, .int .i64 0, .int .u64 0, .int .u64 0] 44)).heap.size := fun k hk => Nat.lt_of_lt_of_le (HD.out k hk) hb1.size
    have hr1 : ∀ g, ro = some g → g < (w.alloc (.cells #[.int .i64 0, .int .i64 0, .int .u64 0, .int .u64 0] 44)).heap.size := fun g hg => Nat.lt_of_lt_of_le (HRo.out g hg) hb1.size
    generalize (w.alloc (.cells #[.int .i64 0, .int .i64 0, .int .u64 0, .int .u64 0] 44)) = W1 at X1 M1 hb1 hz1 hD1 hr1 ⊢
    refine (HT.out _ M1 hD1 hr1).mono ?_
    rintro r w9 ⟨rfl, ho9, nx9, M9, N9⟩
    have hS : StTail D p ro P a c la W1 r0.st w9 := ⟨ho9, nx9, M9, N9⟩
    have X9 := ho9.blk (show ¬ w.heap.size = p by omega) X1
    have x0 : w9.cell? ⟨w.heap.size, 0, none⟩ = some (.int .i64 0) := blk_cell X9 0 _ rfl
    have x1 : w9.cell? ⟨w.heap.size, 1, none⟩ = some (.int .i64 0) := blk_cell X9 1 _ rfl
    have x2 : w9.cell? ⟨w.heap.size, 2, none⟩ = some (.int .u64 0) := blk_cell X9 2 _ rfl
    have x3 : w9.cell? ⟨w.heap.size, 3, none⟩ = some (.int .u64 0) := blk_cell X9 3 _ rfl
    have y0 := blk_fz X9 0
    have y1 := blk_fz X9 1
    have y2 := blk_fz X9 2
    have y3 := blk_fz X9 3
    have lX := blk_lt X9
    have HS := Lib.hid hS
    clear X9 X1 hS ho9 M9 N9
    go_wp2
    refine bodyPost_ret (v := .tuple #[.agg #[.int .i64 r0.k, .int .i64 r0.a, .int .u64 r0.o, .int .u64 r0.n], .bool r0.is]) (by simp [results, Try.results144, go_sem, World.cell?_setCell_same', cell_off, *]) rfl ⟨rfl, ?_⟩
    exact HS.out.off hb1 HD.out lp (by omega) (by omega) _ _ _ _

end Go.Proofs.Ytafenndokmccoaa
