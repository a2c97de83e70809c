/- The law of layer 'door': the chapter's rows. -/
import Derived.Test.YtafenndokmccoaaDoorG
namespace Go.Proofs.Ytafenndokmccoaa
open Go.RowKit
set_option linter.unusedVariables false
set_option linter.unusedSimpArgs false

theorem num19_calls (e : Int) (w : World) : Calls Try.prog 36 #[.int .i64 e] w fun r w' => r = .returned (.int .i64 e) ∧ Below w.heap.size w w' := by
  go_enter Try.func36, Try.ntmps36
  go_wp2
  go_ret
  exact ⟨rfl, by (repeat (first | exact Below.refl _ _ | (with_reducible assumption) | refine Below.drew ?_ | refine Below.drewN' ?_ _ | refine Below.alloc ?_ (by first | omega | (simp; done) | (simp; omega)) _ | refine Below.setCell ?_ (by first | omega | (simp; done) | (simp; omega)) _ | refine Below.then ?_ hb9 (by first | omega | (simp; done) | (simp; omega)) | refine Below.then ?_ hb8 (by first | omega | (simp; done) | (simp; omega)) | refine Below.then ?_ hb7 (by first | omega | (simp; done) | (simp; omega)) | refine Below.then ?_ hb6 (by first | omega | (simp; done) | (simp; omega)) | refine Below.then ?_ hb5 (by first | omega | (simp; done) | (simp; omega)) | refine Below.then ?_ hb4 (by first | omega | (simp; done) | (simp; omega)) | refine Below.then ?_ hb3 (by first | omega | (simp; done) | (simp; omega)) | refine Below.then ?_ hb2 (by first | omega | (simp; done) | (simp; omega)) | refine Below.then ?_ hb1 (by first | omega | (simp; done) | (simp; omega))))⟩

/-- the chapter's plan -/
def ss19 : List ByteArray := [⟨#[112, 115]⟩, ⟨#[112]⟩]
theorem plan19_calls (w : World) : Calls Try.prog 71 #[] w fun r w' => (∃ a, r = .returned (.agg #[.int .i64 1, .int .i64 32, .slice a 2 2]) ∧ SlOf w' a (strV ss19)) ∧ Below w.heap.size w w' := by
  go_enter Try.func71, Try.ntmps71
  go_wp2
  refine bodyPost_ret (v := .agg #[.int .i64 1, .int .i64 32, .slice (some ⟨w.heap.size + 1, 0, none⟩) 2 2]) (by simp [results, Try.results71, go_sem]) rfl ⟨⟨_, rfl, ?_⟩, by (repeat (first | exact Below.refl _ _ | (with_reducible assumption) | refine Below.drew ?_ | refine Below.drewN' ?_ _ | refine Below.alloc ?_ (by first | omega | (simp; done) | (simp; omega)) _ | refine Below.setCell ?_ (by first | omega | (simp; done) | (simp; omega)) _ | refine Below.then ?_ hb9 (by first | omega | (simp; done) | (simp; omega)) | refine Below.then ?_ hb8 (by first | omega | (simp; done) | (simp; omega)) | refine Below.then ?_ hb7 (by first | omega | (simp; done) | (simp; omega)) | refine Below.then ?_ hb6 (by first | omega | (simp; done) | (simp; omega)) | refine Below.then ?_ hb5 (by first | omega | (simp; done) | (simp; omega)) | refine Below.then ?_ hb4 (by first | omega | (simp; done) | (simp; omega)) | refine Below.then ?_ hb3 (by first | omega | (simp; done) | (simp; omega)) | refine Below.then ?_ hb2 (by first | omega | (simp; done) | (simp; omega)) | refine Below.then ?_ hb1 (by first | omega | (simp; done) | (simp; omega))))⟩
  have h := SlOf.new (w.alloc (.cells #[.int .i64 1, .int .i64 32, .slice (some ⟨w.heap.size + 1, 0, none⟩) 2 2] 24)) (strV ss19) 125 (0, 0)
  simpa [strV, ss19] using h

/-- what comes of opening a field -/
def opnE (x : ThN) (t sp : Int) (ss : List ByteArray) (o : OpN) (w : Int) : Int := if newB x t sp ss o = true then (if checkO ss o ≠ 0 then checkO ss o else if adrB (rootN x o.a) = false then 183 else openE x t sp ss o w) else 0
def opnO (x : ThN) (t sp : Int) (ss : List ByteArray) (o : OpN) (w : Int) : Int := if newB x t sp ss o = true ∧ checkO ss o = 0 ∧ adrB (rootN x o.a) = true then openO x t sp ss o w else 0
def opnA (x : ThN) (t sp : Int) (ss : List ByteArray) (o : OpN) (w : Int) : Int := if newB x t sp ss o = true ∧ checkO ss o = 0 ∧ adrB (rootN x o.a) = true then openA x t sp ss o w else 0
def opnN (x : ThN) (t sp : Int) (ss : List ByteArray) (o : OpN) : Int := if newB x t sp ss o = true then (if checkO ss o = 0 ∧ adrB (rootN x o.a) = true then 1 else 0) else 5

set_option maxRecDepth 100000 in
set_option maxHeartbeats 3200000 in
theorem opens_calls (x : ThN) (hx : ThOk x) (t sp : Int) (a : Option Addr) (c : Nat) (ss : List ByteArray) (hn : ss.length ≤ maxLen) (o : OpN) (v : Int) (h0 : 0 ≤ v) (h1 : v < 18446744073709551616) (w : World) (hs : SlOf w a (strV ss)) :
    Calls Try.prog 39 #[.agg #[.int .i64 t, .int .i64 sp, .slice a ss.length c], thV x, opVal o, .int .u64 v] w fun r w' =>
      r = .returned (.tuple #[.agg #[.int .i64 (opnE x t sp ss o v), .int .i64 (opnO x t sp ss o v), .int .i64 (opnA x t sp ss o v)], .int .i64 (opnN x t sp ss o)]) ∧ Below w.heap.size w w' := by
  have hN := fun W h => dNew_calls x hx t sp a c ss hn o W h
  have HU := Lib.hid (fun e W => num19_calls e W)
  unfold thV thA opVal at hN
  unfold thV thA opVal
  by_cases hb : newB x t sp ss o = true
  · simp only [hb, if_true] at hN
    have hpl : planB t sp ss = true := thB_plan (by unfold newB at hb; simp only [Bool.and_eq_true] at hb; exact hb.2)
    have hE1 : opnE x t sp ss o v = if checkO ss o ≠ 0 then checkO ss o else if adrB (rootN x o.a) = false then 183 else openE x t sp ss o v := by unfold opnE; rw [if_pos hb]
    have hN1 : opnN x t sp ss o = if checkO ss o = 0 ∧ adrB (rootN x o.a) = true then 1 else 0 := by unfold opnN; rw [if_pos hb]
    have hD := fun p pl e ob at_ W h hs => dNext_calls p x hx t sp a c ss hn hpl o pl e ob at_ v h0 h1 W h hs
    by_cases hA : checkO ss o = 0 ∧ adrB (rootN x o.a) = true
    · have e0 : stIs x ss o 0 = true := by unfold stIs; rw [decide_eq_true_eq]; exact ⟨rfl, hA.1, hA.2⟩
      have e1 : stIs x ss o 1 = false := by unfold stIs; rw [decide_eq_false_iff_not]; exact fun h => by cases h.1
      have hEE : opnE x t sp ss o v = openE x t sp ss o v := by rw [hE1, if_neg (by simp [hA.1]), if_neg (by simp [hA.2])]
      have hOO : opnO x t sp ss o v = openO x t sp ss o v := by unfold opnO; rw [if_pos ⟨hb, hA⟩]
      have hAA : opnA x t sp ss o v = openA x t sp ss o v := by unfold opnA; rw [if_pos ⟨hb, hA⟩]
      have hNN : opnN x t sp ss o = 1 := by rw [hN1, if_pos hA]
      rw [hEE, hOO, hAA, hNN]
      have HD0 := Lib.hid (fun p W h hs => by
        have := hD p 0 0 0 0 W h hs
        simp only [stAcc, e0, if_true, accA] at this
        simpa [stPl, stE, stO, stA', hA.1, hA.2] using this)
      have HD1 := Lib.hid (fun p W h hs => by
        have := hD p 1 0 0 0 W h hs
        simp only [stAcc, e1, Bool.false_eq_true, if_false, accA] at this
        simpa [stPl, stE, stO, stA'] using this)
      have HN := Lib.hid hN
      have HS := Lib.hid hs
      clear hN hs hD hEE hOO hAA hNN hE1 hN1 hA hb hpl hx h0 h1
      go_enter Try.func39, Try.ntmps39
      go_wp2_with fail
      have hs3 : (((w.alloc (.cells #[.int .i64 t, .int .i64 sp, .slice a ss.length c] 24)).alloc (.cells #[.int .i64 x.n, .int .i64 x.ph, .int .i64 x.ep, .int .i64 x.s, .int .i64 x.ls, .int .i64 x.la, .int .i64 x.ll, .int .u64 x.r0, .int .u64 x.r1, .int .u64 x.r2, .int .u64 x.r3, .int .u64 x.r4, .int .u64 x.r5] 90)).alloc (.cells #[.int .i64 o.k, .int .i64 o.a, .int .i64 o.b, .int .i64 o.c, .int .i64 o.f, .int .i64 o.s, .int .i64 o.x, .int .i64 o.y] 93)).heap.size = w.heap.size + 3 := by simp
      have RB : ((((w.alloc (.cells #[.int .i64 t, .int .i64 sp, .slice a ss.length c] 24)).alloc (.cells #[.int .i64 x.n, .int .i64 x.ph, .int .i64 x.ep, .int .i64 x.s, .int .i64 x.ls, .int .i64 x.la, .int .i64 x.ll, .int .u64 x.r0, .int .u64 x.r1, .int .u64 x.r2, .int .u64 x.r3, .int .u64 x.r4, .int .u64 x.r5] 90)).alloc (.cells #[.int .i64 o.k, .int .i64 o.a, .int .i64 o.b, .int .i64 o.c, .int .i64 o.f, .int .i64 o.s, .int .i64 o.x, .int .i64 o.y] 93)).alloc (.cells #[.int .i64 0, .int .i64 0, .int .i64 0] 96)).heap[w.heap.size + 3]? = some (.cells #[.int .i64 0, .int .i64 0, .int .i64 0] 96 (0, 0)) := by rw [← hs3]; exact (MapKept.heap_alloc _ _).1
      have hb0 : Below w.heap.size w ((((w.alloc (.cells #[.int .i64 t, .int .i64 sp, .slice a ss.length c] 24)).alloc (.cells #[.int .i64 x.n, .int .i64 x.ph, .int .i64 x.ep, .int .i64 x.s, .int .i64 x.ls, .int .i64 x.la, .int .i64 x.ll, .int .u64 x.r0, .int .u64 x.r1, .int .u64 x.r2, .int .u64 x.r3, .int .u64 x.r4, .int .u64 x.r5] 90)).alloc (.cells #[.int .i64 o.k, .int .i64 o.a, .int .i64 o.b, .int .i64 o.c, .int .i64 o.f, .int .i64 o.s, .int .i64 o.x, .int .i64 o.y] 93)).alloc (.cells #[.int .i64 0, .int .i64 0, .int .i64 0] 96)) := by (repeat (first | exact Below.refl _ _ | (with_reducible assumption) | refine Below.drew ?_ | refine Below.drewN' ?_ _ | refine Below.alloc ?_ (by first | omega | (simp; done) | (simp; omega)) _ | refine Below.setCell ?_ (by first | omega | (simp; done) | (simp; omega)) _ | refine Below.then ?_ hb9 (by first | omega | (simp; done) | (simp; omega)) | refine Below.then ?_ hb8 (by first | omega | (simp; done) | (simp; omega)) | refine Below.then ?_ hb7 (by first | omega | (simp; done) | (simp; omega)) | refine Below.then ?_ hb6 (by first | omega | (simp; done) | (simp; omega)) | refine Below.then ?_ hb5 (by first | omega | (simp; done) | (simp; omega)) | refine Below.then ?_ hb4 (by first | omega | (simp; done) | (simp; omega)) | refine Below.then ?_ hb3 (by first | omega | (simp; done) | (simp; omega)) | refine Below.then ?_ hb2 (by first | omega | (simp; done) | (simp; omega)) | refine Below.then ?_ hb1 (by first | omega | (simp; done) | (simp; omega))))
      have hz0 : w.heap.size + 3 < ((((w.alloc (.cells #[.int .i64 t, .int .i64 sp, .slice a ss.length c] 24)).alloc (.cells #[.int .i64 x.n, .int .i64 x.ph, .int .i64 x.ep, .int .i64 x.s, .int .i64 x.ls, .int .i64 x.la, .int .i64 x.ll, .int .u64 x.r0, .int .u64 x.r1, .int .u64 x.r2, .int .u64 x.r3, .int .u64 x.r4, .int .u64 x.r5] 90)).alloc (.cells #[.int .i64 o.k, .int .i64 o.a, .int .i64 o.b, .int .i64 o.c, .int .i64 o.f, .int .i64 o.s, .int .i64 o.x, .int .i64 o.y] 93)).alloc (.cells #[.int .i64 0, .int .i64 0, .int .i64 0] 96)).heap.size := by simp
      clear hs3
      generalize ((((w.alloc (.cells #[.int .i64 t, .int .i64 sp, .slice a ss.length c] 24)).alloc (.cells #[.int .i64 x.n, .int .i64 x.ph, .int .i64 x.ep, .int .i64 x.s, .int .i64 x.ls, .int .i64 x.la, .int .i64 x.ll, .int .u64 x.r0, .int .u64 x.r1, .int .u64 x.r2, .int .u64 x.r3, .int .u64 x.r4, .int .u64 x.r5] 90)).alloc (.cells #[.int .i64 o.k, .int .i64 o.a, .int .i64 o.b, .int .i64 o.c, .int .i64 o.f, .int .i64 o.s, .int .i64 o.x, .int .i64 o.y] 93)).alloc (.cells #[.int .i64 0, .int .i64 0, .int .i64 0] 96)) = W4 at RB hb0 hz0 ⊢
      obtain ⟨X, hX⟩ : ∃ X, X = w.heap.size + 3 := ⟨_, rfl⟩
      rw [← hX] at RB hz0
      have hS4 := HS.out.below hb0
      refine (HN.out _ hS4).mono ?_
      rintro r w1 ⟨⟨p, rfl, hp, hM1⟩, hb1⟩
      have RB1 := blk_below RB hb1
      have hS1 := hS4.below hb1
      have hXp : ¬ X = p := by omega
      have hwp : w.heap.size ≤ p := by omega
      have hO1 : Only (· = p) w w1 := Only.of (Below.then hb0 hb1 (by omega))
      clear RB hS4 hb1 hb0 hz0 hp
      go_wp2_with fail
      refine wp_loop_rounds 3 ?_
      rw [rounds_succ]
      go_wp2_with (first | (go_at_call 36; go_in))
      refine (HD0.out p _ hM1 hS1).mono ?_
      rintro r w2 ⟨rfl, ho2, hM2⟩
      have RB2 := blk_alloc (ho2.blk hXp RB1) (.cells #[.int .i64 1, .int .i64 (adrV (rootN x o.a)), .int .u64 0, .int .u64 0] 44)
      have hOp := (hO1.trans ho2).alloc (.cells #[.int .i64 1, .int .i64 (adrV (rootN x o.a)), .int .u64 0, .int .u64 0] 44)
      have hS2 := HS.out.below ((hO1.trans ho2).below (Nat.le_refl _) (fun k hk => by subst hk; exact hwp))
      clear RB1 hO1 hS1 ho2 hM1
      go_wp2_with (first | (go_at_call 36; go_in))
      rw [rounds_succ]
      go_wp2_with (first | (go_at_call 36; go_in))
      refine (HD1.out p _ (hM2.below ((Below.refl _ _).alloc (Nat.le_refl _) (.cells #[.int .i64 1, .int .i64 (adrV (rootN x o.a)), .int .u64 0, .int .u64 0] 44))) (hS2.alloc _)).mono ?_
      rintro r w3 ⟨rfl, ho3, hM3⟩
      have RBx := blk_alloc (ho3.blk hXp RB2) (.cells #[.int .i64 0, .int .i64 0, .int .u64 0, .int .u64 0] 44)
      have hOx := (hOp.trans ho3).alloc (.cells #[.int .i64 0, .int .i64 0, .int .u64 0, .int .u64 0] 44)
      go_wp2_with (first | (go_at_call 36; go_in))
      refine (dOutM p x t sp a c ss o 2 _ _ _ _ (hM3.below ((Below.refl _ _).alloc (Nat.le_refl _) (.cells #[.int .i64 0, .int .i64 0, .int .u64 0, .int .u64 0] 44)))).mono ?_
      rintro r w9 ⟨rfl, hb9⟩
      have RB9 := blk_below RBx hb9
      have hO9 : Only (· = p) w w9 := hOx.then hb9
      have hB9 : Below w.heap.size w w9 := hO9.below (Nat.le_refl _) (fun k hk => by subst hk; exact hwp)
      have x0 : w9.cell? ⟨X, 0, none⟩ = some (.int .i64 0) := blk_cell RB9 0 _ rfl
      have x1 : w9.cell? ⟨X, 1, none⟩ = some (.int .i64 0) := blk_cell RB9 1 _ rfl
      have x2 : w9.cell? ⟨X, 2, none⟩ = some (.int .i64 0) := blk_cell RB9 2 _ rfl
      have y0 := blk_fz RB9 0
      have y1 := blk_fz RB9 1
      have y2 := blk_fz RB9 2
      have lX := blk_lt RB9
      have hwX : w.heap.size ≤ X := by omega
      have hXn : ¬ X = w9.heap.size := by omega
      have hXm : ¬ w9.heap.size = X := by omega
      clear RB9 RBx hOx hO9 hb9 ho3
      subst hX
      go_wp2
      exact bodyPost_ret (v := .tuple #[.agg #[.int .i64 (openE x t sp ss o v), .int .i64 (openO x t sp ss o v), .int .i64 (openA x t sp ss o v)], .int .i64 1]) (by simp [results, Try.results39, go_sem, World.cell?_setCell_same', cell_off, *]) rfl ⟨rfl, by (repeat (first | exact Below.refl _ _ | (with_reducible assumption) | refine Below.drew ?_ | refine Below.drewN' ?_ _ | refine Below.alloc ?_ (by first | omega | (simp; done) | (simp; omega)) _ | refine Below.setCell ?_ (by first | omega | (simp; done) | (simp; omega)) _ | refine Below.then ?_ hb9 (by first | omega | (simp; done) | (simp; omega)) | refine Below.then ?_ hb8 (by first | omega | (simp; done) | (simp; omega)) | refine Below.then ?_ hb7 (by first | omega | (simp; done) | (simp; omega)) | refine Below.then ?_ hb6 (by first | omega | (simp; done) | (simp; omega)) | refine Below.then ?_ hb5 (by first | omega | (simp; done) | (simp; omega)) | refine Below.then ?_ hb4 (by first | omega | (simp; done) | (simp; omega)) | refine Below.then ?_ hb3 (by first | omega | (simp; done) | (simp; omega)) | refine Below.then ?_ hb2 (by first | omega | (simp; done) | (simp; omega)) | refine Below.then ?_ hb1 (by first | omega | (simp; done) | (simp; omega))))⟩
    · have e0 : stIs x ss o 0 = false := by unfold stIs; rw [decide_eq_false_iff_not]; exact fun h => hA h.2
      have hOO : opnO x t sp ss o v = 0 := by unfold opnO; rw [if_neg (fun h => hA h.2)]
      have hAA : opnA x t sp ss o v = 0 := by unfold opnA; rw [if_neg (fun h => hA h.2)]
      have hNN : opnN x t sp ss o = 0 := by rw [hN1, if_neg hA]
      have hst : stPl x ss o 0 = 2 ∧ stE x t sp ss o 0 0 v = opnE x t sp ss o v := by
        rw [hE1]
        unfold stPl stE
        by_cases hc : checkO ss o = 0
        · have hr : adrB (rootN x o.a) = false := by
            cases hr : adrB (rootN x o.a) with
            | false => rfl
            | true => exact absurd ⟨hc, hr⟩ hA
          simp [hc, hr]
        · simp [hc]
      have hEE := hst.2
      rw [hOO, hAA, hNN]
      have HD0 := Lib.hid (fun p W h hs => by
        have := hD p 0 0 0 0 W h hs
        simp only [stAcc, e0, Bool.false_eq_true, if_false, accA, hst.1, hst.2, stO, stA', if_true] at this
        exact this)
      generalize opnE x t sp ss o v = EE at HD0 ⊢
      have HN := Lib.hid hN
      have HS := Lib.hid hs
      clear hN hs hD hEE hOO hAA hNN hE1 hN1 hA hb hpl hx h0 h1 e0 hst
      go_enter Try.func39, Try.ntmps39
      go_wp2_with fail
      have hs3 : (((w.alloc (.cells #[.int .i64 t, .int .i64 sp, .slice a ss.length c] 24)).alloc (.cells #[.int .i64 x.n, .int .i64 x.ph, .int .i64 x.ep, .int .i64 x.s, .int .i64 x.ls, .int .i64 x.la, .int .i64 x.ll, .int .u64 x.r0, .int .u64 x.r1, .int .u64 x.r2, .int .u64 x.r3, .int .u64 x.r4, .int .u64 x.r5] 90)).alloc (.cells #[.int .i64 o.k, .int .i64 o.a, .int .i64 o.b, .int .i64 o.c, .int .i64 o.f, .int .i64 o.s, .int .i64 o.x, .int .i64 o.y] 93)).heap.size = w.heap.size + 3 := by simp
      have RB : ((((w.alloc (.cells #[.int .i64 t, .int .i64 sp, .slice a ss.length c] 24)).alloc (.cells #[.int .i64 x.n, .int .i64 x.ph, .int .i64 x.ep, .int .i64 x.s, .int .i64 x.ls, .int .i64 x.la, .int .i64 x.ll, .int .u64 x.r0, .int .u64 x.r1, .int .u64 x.r2, .int .u64 x.r3, .int .u64 x.r4, .int .u64 x.r5] 90)).alloc (.cells #[.int .i64 o.k, .int .i64 o.a, .int .i64 o.b, .int .i64 o.c, .int .i64 o.f, .int .i64 o.s, .int .i64 o.x, .int .i64 o.y] 93)).alloc (.cells #[.int .i64 0, .int .i64 0, .int .i64 0] 96)).heap[w.heap.size + 3]? = some (.cells #[.int .i64 0, .int .i64 0, .int .i64 0] 96 (0, 0)) := by rw [← hs3]; exact (MapKept.heap_alloc _ _).1
      have hb0 : Below w.heap.size w ((((w.alloc (.cells #[.int .i64 t, .int .i64 sp, .slice a ss.length c] 24)).alloc (.cells #[.int .i64 x.n, .int .i64 x.ph, .int .i64 x.ep, .int .i64 x.s, .int .i64 x.ls, .int .i64 x.la, .int .i64 x.ll, .int .u64 x.r0, .int .u64 x.r1, .int .u64 x.r2, .int .u64 x.r3, .int .u64 x.r4, .int .u64 x.r5] 90)).alloc (.cells #[.int .i64 o.k, .int .i64 o.a, .int .i64 o.b, .int .i64 o.c, .int .i64 o.f, .int .i64 o.s, .int .i64 o.x, .int .i64 o.y] 93)).alloc (.cells #[.int .i64 0, .int .i64 0, .int .i64 0] 96)) := by (repeat (first | exact Below.refl _ _ | (with_reducible assumption) | refine Below.drew ?_ | refine Below.drewN' ?_ _ | refine Below.alloc ?_ (by first | omega | (simp; done) | (simp; omega)) _ | refine Below.setCell ?_ (by first | omega | (simp; done) | (simp; omega)) _ | refine Below.then ?_ hb9 (by first | omega | (simp; done) | (simp; omega)) | refine Below.then ?_ hb8 (by first | omega | (simp; done) | (simp; omega)) | refine Below.then ?_ hb7 (by first | omega | (simp; done) | (simp; omega)) | refine Below.then ?_ hb6 (by first | omega | (simp; done) | (simp; omega)) | refine Below.then ?_ hb5 (by first | omega | (simp; done) | (simp; omega)) | refine Below.then ?_ hb4 (by first | omega | (simp; done) | (simp; omega)) | refine Below.then ?_ hb3 (by first | omega | (simp; done) | (simp; omega)) | refine Below.then ?_ hb2 (by first | omega | (simp; done) | (simp; omega)) | refine Below.then ?_ hb1 (by first | omega | (simp; done) | (simp; omega))))
      have hz0 : w.heap.size + 3 < ((((w.alloc (.cells #[.int .i64 t, .int .i64 sp, .slice a ss.length c] 24)).alloc (.cells #[.int .i64 x.n, .int .i64 x.ph, .int .i64 x.ep, .int .i64 x.s, .int .i64 x.ls, .int .i64 x.la, .int .i64 x.ll, .int .u64 x.r0, .int .u64 x.r1, .int .u64 x.r2, .int .u64 x.r3, .int .u64 x.r4, .int .u64 x.r5] 90)).alloc (.cells #[.int .i64 o.k, .int .i64 o.a, .int .i64 o.b, .int .i64 o.c, .int .i64 o.f, .int .i64 o.s, .int .i64 o.x, .int .i64 o.y] 93)).alloc (.cells #[.int .i64 0, .int .i64 0, .int .i64 0] 96)).heap.size := by simp
      clear hs3
      generalize ((((w.alloc (.cells #[.int .i64 t, .int .i64 sp, .slice a ss.length c] 24)).alloc (.cells #[.int .i64 x.n, .int .i64 x.ph, .int .i64 x.ep, .int .i64 x.s, .int .i64 x.ls, .int .i64 x.la, .int .i64 x.ll, .int .u64 x.r0, .int .u64 x.r1, .int .u64 x.r2, .int .u64 x.r3, .int .u64 x.r4, .int .u64 x.r5] 90)).alloc (.cells #[.int .i64 o.k, .int .i64 o.a, .int .i64 o.b, .int .i64 o.c, .int .i64 o.f, .int .i64 o.s, .int .i64 o.x, .int .i64 o.y] 93)).alloc (.cells #[.int .i64 0, .int .i64 0, .int .i64 0] 96)) = W4 at RB hb0 hz0 ⊢
      obtain ⟨X, hX⟩ : ∃ X, X = w.heap.size + 3 := ⟨_, rfl⟩
      rw [← hX] at RB hz0
      have hS4 := HS.out.below hb0
      refine (HN.out _ hS4).mono ?_
      rintro r w1 ⟨⟨p, rfl, hp, hM1⟩, hb1⟩
      have RB1 := blk_below RB hb1
      have hS1 := hS4.below hb1
      have hXp : ¬ X = p := by omega
      have hwp : w.heap.size ≤ p := by omega
      have hO1 : Only (· = p) w w1 := Only.of (Below.then hb0 hb1 (by omega))
      clear RB hS4 hb1 hb0 hz0 hp
      go_wp2_with fail
      refine wp_loop_rounds 3 ?_
      rw [rounds_succ]
      go_wp2_with (first | (go_at_call 36; go_in))
      refine (HD0.out p _ hM1 hS1).mono ?_
      rintro r w2 ⟨rfl, ho2, hM2⟩
      have RBx := blk_alloc (ho2.blk hXp RB1) (.cells #[.int .i64 0, .int .i64 0, .int .u64 0, .int .u64 0] 44)
      have hOx := (hO1.trans ho2).alloc (.cells #[.int .i64 0, .int .i64 0, .int .u64 0, .int .u64 0] 44)
      go_wp2_with (first | (go_at_call 36; go_in))
      refine (dOutM p x t sp a c ss o 2 _ _ _ _ (hM2.below ((Below.refl _ _).alloc (Nat.le_refl _) (.cells #[.int .i64 0, .int .i64 0, .int .u64 0, .int .u64 0] 44)))).mono ?_
      rintro r w9 ⟨rfl, hb9⟩
      have RB9 := blk_below RBx hb9
      have hO9 : Only (· = p) w w9 := hOx.then hb9
      have hB9 : Below w.heap.size w w9 := hO9.below (Nat.le_refl _) (fun k hk => by subst hk; exact hwp)
      have x0 : w9.cell? ⟨X, 0, none⟩ = some (.int .i64 0) := blk_cell RB9 0 _ rfl
      have x1 : w9.cell? ⟨X, 1, none⟩ = some (.int .i64 0) := blk_cell RB9 1 _ rfl
      have x2 : w9.cell? ⟨X, 2, none⟩ = some (.int .i64 0) := blk_cell RB9 2 _ rfl
      have y0 := blk_fz RB9 0
      have y1 := blk_fz RB9 1
      have y2 := blk_fz RB9 2
      have lX := blk_lt RB9
      have hwX : w.heap.size ≤ X := by omega
      have hXn : ¬ X = w9.heap.size := by omega
      have hXm : ¬ w9.heap.size = X := by omega
      clear RB9 RBx hOx hO9 hb9 ho2
      subst hX
      go_wp2
      exact bodyPost_ret (v := .tuple #[.agg #[.int .i64 EE, .int .i64 0, .int .i64 0], .int .i64 0]) (by simp [results, Try.results39, go_sem, World.cell?_setCell_same', cell_off, *]) rfl ⟨rfl, by (repeat (first | exact Below.refl _ _ | (with_reducible assumption) | refine Below.drew ?_ | refine Below.drewN' ?_ _ | refine Below.alloc ?_ (by first | omega | (simp; done) | (simp; omega)) _ | refine Below.setCell ?_ (by first | omega | (simp; done) | (simp; omega)) _ | refine Below.then ?_ hb9 (by first | omega | (simp; done) | (simp; omega)) | refine Below.then ?_ hb8 (by first | omega | (simp; done) | (simp; omega)) | refine Below.then ?_ hb7 (by first | omega | (simp; done) | (simp; omega)) | refine Below.then ?_ hb6 (by first | omega | (simp; done) | (simp; omega)) | refine Below.then ?_ hb5 (by first | omega | (simp; done) | (simp; omega)) | refine Below.then ?_ hb4 (by first | omega | (simp; done) | (simp; omega)) | refine Below.then ?_ hb3 (by first | omega | (simp; done) | (simp; omega)) | refine Below.then ?_ hb2 (by first | omega | (simp; done) | (simp; omega)) | refine Below.then ?_ hb1 (by first | omega | (simp; done) | (simp; omega))))⟩
  · simp only [hb, if_false] at hN
    have hEE : opnE x t sp ss o v = 0 := by unfold opnE; rw [if_neg hb]
    have hOO : opnO x t sp ss o v = 0 := by unfold opnO; rw [if_neg (fun h => hb h.1)]
    have hAA : opnA x t sp ss o v = 0 := by unfold opnA; rw [if_neg (fun h => hb h.1)]
    have hNN : opnN x t sp ss o = 5 := by unfold opnN; rw [if_neg hb]
    rw [hEE, hOO, hAA, hNN]
    have hN := fun W h => hN W h
    have HN := Lib.hid hN
    have HS := Lib.hid hs
    clear hN hs hEE hOO hAA hNN hb hx h0 h1
    go_enter Try.func39, Try.ntmps39
    go_wp2_with fail
    refine (HN.out _ ((((HS.out.alloc _).alloc _).alloc _).alloc _)).mono ?_
    rintro r w1 ⟨rfl, hb1⟩
    obtain ⟨hc1, hf1⟩ := bcell hb1
    have hz1 := hb1.size
    simp at hz1
    have x0 := hc1 (w.heap.size + 3) 0 (by first | omega | (simp; done) | (simp; omega)); simp [go_sem] at x0
    have x1 := hc1 (w.heap.size + 3) 1 (by first | omega | (simp; done) | (simp; omega)); simp [go_sem] at x1
    have x2 := hc1 (w.heap.size + 3) 2 (by first | omega | (simp; done) | (simp; omega)); simp [go_sem] at x2
    have y0 := hf1 (w.heap.size + 3) 0 (by first | omega | (simp; done) | (simp; omega)); simp [go_sem] at y0
    have y1 := hf1 (w.heap.size + 3) 1 (by first | omega | (simp; done) | (simp; omega)); simp [go_sem] at y1
    have y2 := hf1 (w.heap.size + 3) 2 (by first | omega | (simp; done) | (simp; omega)); simp [go_sem] at y2
    have lX : w.heap.size + 3 < w1.heap.size := by omega
    go_wp2_with fail
    refine wp_loop_rounds 3 ?_
    rw [rounds_succ]
    go_wp2_with (first | (go_at_call 36; go_in))
    exact bodyPost_ret (v := .tuple #[.agg #[.int .i64 0, .int .i64 0, .int .i64 0], .int .i64 5]) (by simp [results, Try.results39, go_sem, World.cell?_setCell_same', cell_off, *]) rfl ⟨rfl, by (repeat (first | exact Below.refl _ _ | (with_reducible assumption) | refine Below.drew ?_ | refine Below.drewN' ?_ _ | refine Below.alloc ?_ (by first | omega | (simp; done) | (simp; omega)) _ | refine Below.setCell ?_ (by first | omega | (simp; done) | (simp; omega)) _ | refine Below.then ?_ hb9 (by first | omega | (simp; done) | (simp; omega)) | refine Below.then ?_ hb8 (by first | omega | (simp; done) | (simp; omega)) | refine Below.then ?_ hb7 (by first | omega | (simp; done) | (simp; omega)) | refine Below.then ?_ hb6 (by first | omega | (simp; done) | (simp; omega)) | refine Below.then ?_ hb5 (by first | omega | (simp; done) | (simp; omega)) | refine Below.then ?_ hb4 (by first | omega | (simp; done) | (simp; omega)) | refine Below.then ?_ hb3 (by first | omega | (simp; done) | (simp; omega)) | refine Below.then ?_ hb2 (by first | omega | (simp; done) | (simp; omega)) | refine Below.then ?_ hb1 (by first | omega | (simp; done) | (simp; omega))))⟩
end Go.Proofs.Ytafenndokmccoaa
