/- The layer 'op': which operations may be, and what is wrong first. -/
import Derived.Test.YtafenndokmccoaaOpFd
import Derived.Test.YtafenndokmccoaaShapeB
import Derived.Laws.EntriesVeiled
namespace Go.Proofs.Ytafenndokmccoaa
open Go.RowKit
set_option linter.unusedVariables false
set_option linter.unusedSimpArgs false

/-- are the slots it names slots; are its scalars scalars -/
def slotB (o : OpN) : Bool := decide (0 ≤ o.a ∧ o.a < 6 ∧ 0 ≤ o.b ∧ o.b < 6 ∧ 0 ≤ o.c ∧ o.c < 6)
def scalB (o : OpN) : Bool := decide (-576460752303423488 ≤ o.x ∧ o.x ≤ 576460752303423487 ∧ -576460752303423488 ≤ o.y ∧ o.y ≤ 576460752303423487)
def checkO (ss : List ByteArray) (o : OpN) : Int :=
  if tableB ss = false then 2 else if bareB o = false then 180 else if slotB o = false then 181 else if o.k = 1 then ofE ss o.s else if scalB o = false then 182 else 0
def SlotsTo (o : OpN) (j : Nat) : Prop := ∀ n, n < j → n ≤ 2 → 0 ≤ o.get n ∧ o.get n < 6
theorem slots_all {o : OpN} (h : SlotsTo o 7) : slotB o = true := by
  have h0 : 0 ≤ o.a ∧ o.a < 6 := h 0 (by omega) (by omega)
  have h1 : 0 ≤ o.b ∧ o.b < 6 := h 1 (by omega) (by omega)
  have h2 : 0 ≤ o.c ∧ o.c < 6 := h 2 (by omega) (by omega)
  unfold slotB
  simp only [decide_eq_true_eq]
  exact ⟨h0.1, h0.2, h1.1, h1.2, h2.1, h2.2⟩
theorem slots_bad {o : OpN} (n : Nat) (hn : n ≤ 2) (h : o.get n < 0 ∨ 6 ≤ o.get n) : slotB o = false := by
  unfold slotB
  simp only [decide_eq_false_iff_not]
  obtain rfl | rfl | rfl : n = 0 ∨ n = 1 ∨ n = 2 := by omega
  · have : o.a < 0 ∨ 6 ≤ o.a := h
    omega
  · have : o.b < 0 ∨ 6 ≤ o.b := h
    omega
  · have : o.c < 0 ∨ 6 ≤ o.c := h
    omega
theorem slots_succ {o : OpN} {j : Nat} (h : SlotsTo o j) (hj : j ≤ 2 → 0 ≤ o.get j ∧ o.get j < 6) : SlotsTo o (j + 1) := by
  intro n hn h2
  by_cases e : n = j
  · subst e; exact hj h2
  · exact h n (by omega) h2

theorem scal_bad {o : OpN} (h : o.x < -576460752303423488 ∨ 576460752303423487 < o.x ∨ o.y < -576460752303423488 ∨ 576460752303423487 < o.y) : scalB o = false := by
  unfold scalB
  simp only [decide_eq_false_iff_not]
  omega
theorem scal_ok {o : OpN} (hx : -576460752303423488 ≤ o.x ∧ o.x ≤ 576460752303423487) (hy : -576460752303423488 ≤ o.y ∧ o.y ≤ 576460752303423487) : scalB o = true := by
  unfold scalB
  simp only [decide_eq_true_eq]
  exact ⟨hx.1, hx.2, hy.1, hy.2⟩

set_option maxRecDepth 1000000 in
set_option maxHeartbeats 6400000 in
theorem opCheck_calls (a : Option Addr) (c : Nat) (ss : List ByteArray) (hn : ss.length ≤ maxLen) (o : OpN) (w : World) (h : SlOf w a (strV ss)) :
    Calls Try.prog 118 #[.slice a ss.length c, opVal o] w fun e w' => e = .returned (.int .i64 (checkO ss o)) ∧ Below w.heap.size w w' := by
  have hB := fun W => bare_calls o W
  have hC := fun W h => check_calls a c ss hn W h
  have HS := Lib.hid h
  have HZ := Lib.hid (fun i W h => shSize_calls a c ss i hn W h)
  unfold opVal at hB
  unfold opVal
  clear h
  cases ht : tableB ss with
  | false =>
    have e0 : checkE ss = 2 := by unfold checkE; rw [ht]; rfl
    have e1 : checkO ss o = 2 := by unfold checkO; rw [if_pos ht]
    rw [e0] at hC
    rw [e1]
    have HC := Lib.hid hC
    clear hC e0 e1 ht hB
    go_enter Try.func118, Try.ntmps118
    go_wp2_with fail
    refine wp_scope_once 0 rfl ?_
    go_wp2_with fail
    refine (HC.out _ (HS.out.alloc _)).mono ?_; rintro e1 w1 ⟨rfl, hb1⟩; have hz1 := hb1.size; (try simp at hz1)
    go_wp2
    go_step3
    refine ⟨rfl, ?_⟩
    go_wp2
    rw [Exit.noGoto_ret]
    go_ret
    exact ⟨rfl, by (repeat (first | exact Below.refl _ _ | (with_reducible assumption) | refine Below.drew ?_ | refine Below.drewN' ?_ _ | refine Below.alloc ?_ (by first | omega | (simp; done) | (simp; omega)) _ | refine Below.setCell ?_ (by first | omega | (simp; done) | (simp; omega)) _ | refine Below.then ?_ hb9 (by first | omega | (simp; done) | (simp; omega)) | refine Below.then ?_ hb8 (by first | omega | (simp; done) | (simp; omega)) | refine Below.then ?_ hb7 (by first | omega | (simp; done) | (simp; omega)) | refine Below.then ?_ hb6 (by first | omega | (simp; done) | (simp; omega)) | refine Below.then ?_ hb5 (by first | omega | (simp; done) | (simp; omega)) | refine Below.then ?_ hb4 (by first | omega | (simp; done) | (simp; omega)) | refine Below.then ?_ hb3 (by first | omega | (simp; done) | (simp; omega)) | refine Below.then ?_ hb2 (by first | omega | (simp; done) | (simp; omega)) | refine Below.then ?_ hb1 (by first | omega | (simp; done) | (simp; omega))))⟩
  | true =>
    have e0 : checkE ss = 0 := by unfold checkE; rw [ht]; rfl
    rw [e0] at hC
    have HC := Lib.hid hC
    have HE0 := Lib.hid (show checkO ss o = if bareB o = false then 180 else if slotB o = false then 181 else if o.k = 1 then ofE ss o.s else if scalB o = false then 182 else 0 by unfold checkO; rw [if_neg (by rw [ht]; decide)])
    clear hC e0 ht
    cases hb : bareB o with
    | false =>
      have e1 : checkO ss o = 180 := by rw [HE0.out, if_pos hb]
      rw [hb] at hB
      rw [e1]
      have HB := Lib.hid hB
      clear hB e1 hb
      go_enter Try.func118, Try.ntmps118
      go_wp2_with fail
      refine wp_scope_once 0 rfl ?_
      go_wp2_with fail
      refine (HC.out _ (HS.out.alloc _)).mono ?_; rintro e1 w1 ⟨rfl, hb1⟩; have hz1 := hb1.size; (try simp at hz1)
      obtain ⟨q1, q2, q3, q4, q5, q6, q7, q8, q9, qf⟩ := (OpAt.new w o 93 _ rfl).below hb1
      go_wp2_with fail
      refine (HB.out _).mono ?_; rintro e2 w2 ⟨rfl, hb2⟩; have hz2 := hb2.size; (try simp at hz2)
      go_wp2
      go_step3
      refine ⟨rfl, ?_⟩
      go_wp2
      rw [Exit.noGoto_ret]
      go_ret
      exact ⟨rfl, by (repeat (first | exact Below.refl _ _ | (with_reducible assumption) | refine Below.drew ?_ | refine Below.drewN' ?_ _ | refine Below.alloc ?_ (by first | omega | (simp; done) | (simp; omega)) _ | refine Below.setCell ?_ (by first | omega | (simp; done) | (simp; omega)) _ | refine Below.then ?_ hb9 (by first | omega | (simp; done) | (simp; omega)) | refine Below.then ?_ hb8 (by first | omega | (simp; done) | (simp; omega)) | refine Below.then ?_ hb7 (by first | omega | (simp; done) | (simp; omega)) | refine Below.then ?_ hb6 (by first | omega | (simp; done) | (simp; omega)) | refine Below.then ?_ hb5 (by first | omega | (simp; done) | (simp; omega)) | refine Below.then ?_ hb4 (by first | omega | (simp; done) | (simp; omega)) | refine Below.then ?_ hb3 (by first | omega | (simp; done) | (simp; omega)) | refine Below.then ?_ hb2 (by first | omega | (simp; done) | (simp; omega)) | refine Below.then ?_ hb1 (by first | omega | (simp; done) | (simp; omega))))⟩
    | true =>
      rw [hb] at hB
      have HB := Lib.hid hB
      have HE := Lib.hid (show checkO ss o = if slotB o = false then 181 else if o.k = 1 then ofE ss o.s else if scalB o = false then 182 else 0 by rw [HE0.out, if_neg (by rw [hb]; decide)])
      clear hB hb HE0
      go_enter Try.func118, Try.ntmps118
      go_wp2_with fail
      refine wp_scope_once 0 rfl ?_
      go_wp2_with fail
      refine (HC.out _ (HS.out.alloc _)).mono ?_; rintro e1 w1 ⟨rfl, hb1⟩; have hz1 := hb1.size; (try simp at hz1)
      have O1 := (OpAt.new w o 93 _ rfl).below hb1
      obtain ⟨q1, q2, q3, q4, q5, q6, q7, q8, q9, qf⟩ := O1
      have O1 := Lib.hid (OpAt.mk q1 q2 q3 q4 q5 q6 q7 q8 q9 qf)
      go_wp2_with fail
      refine (HB.out _).mono ?_; rintro e2 w2 ⟨rfl, hb2⟩; have hz2 := hb2.size; (try simp at hz2)
      have O2 := Lib.hid (O1.out.below hb2)
      clear q1 q2 q3 q4 q5 q6 q7 q8 q9 qf
      go_wp2_with fail
      refine (parts_calls _).mono ?_; rintro e3 w3 ⟨rfl, hb3⟩; have hz3 := hb3.size; (try simp at hz3)
      have O3 := Lib.hid (O2.out.below hb3)
      go_wp2_with fail
      go_loopw [18] (fun i wr => ∃ (j : Nat) (t : Int), j ≤ 7 ∧ i = .int .i64 t ∧ t = j ∧ Below w3.heap.size w3 wr ∧ SlotsTo o j) (fun i _ => 7 - (intOf i).toNat)
      case atStart => exact ⟨0, 0, by omega, rfl, rfl, by (repeat (first | exact Below.refl _ _ | (with_reducible assumption) | refine Below.drew ?_ | refine Below.drewN' ?_ _ | refine Below.alloc ?_ (by first | omega | (simp; done) | (simp; omega)) _ | refine Below.setCell ?_ (by first | omega | (simp; done) | (simp; omega)) _ | refine Below.then ?_ hb9 (by first | omega | (simp; done) | (simp; omega)) | refine Below.then ?_ hb8 (by first | omega | (simp; done) | (simp; omega)) | refine Below.then ?_ hb7 (by first | omega | (simp; done) | (simp; omega)) | refine Below.then ?_ hb6 (by first | omega | (simp; done) | (simp; omega)) | refine Below.then ?_ hb5 (by first | omega | (simp; done) | (simp; omega)) | refine Below.then ?_ hb4 (by first | omega | (simp; done) | (simp; omega)) | refine Below.then ?_ hb3 (by first | omega | (simp; done) | (simp; omega)) | refine Below.then ?_ hb2 (by first | omega | (simp; done) | (simp; omega)) | refine Below.then ?_ hb1 (by first | omega | (simp; done) | (simp; omega)))), fun n hn => by omega⟩
      case round =>
        obtain ⟨j, t, hj, rfl, ht, hb9, hsl⟩ := hrel
        have hzB := hb9.size
        have O9 := O3.out.below hb9
        have HO9 := Lib.hid O9
        have HSL := Lib.hid hsl
        obtain ⟨q1, q2, q3, q4, q5, q6, q7, q8, q9, qf⟩ := O9
        clear hsl
        by_cases hlt : j < 7
        · obtain rfl | rfl | rfl | rfl | rfl | rfl | rfl : j = 0 ∨ j = 1 ∨ j = 2 ∨ j = 3 ∨ j = 4 ∨ j = 5 ∨ j = 6 := by omega
          · obtain rfl : t = 0 := by omega
            have hi : ∀ W, (Instr.index 222 partsV (.int .i64 0)).run Try.prog W = .ok (.agg #[.func (.func 163) #[] #[], .nilFunc, .bool true]) W := fun W => by kernel_rfl
            have HG : Hid (∀ bx W, bx < W.heap.size → W.cell? ⟨bx, 1, none⟩ = some (.int .i64 o.a) → Calls Try.prog 138 #[.agg #[.func (.func 163) #[] #[], .nilFunc, .bool true], .pointer (some ⟨bx, 0, none⟩)] W fun e w' => e = .returned (.int .i64 o.a) ∧ Below W.heap.size W w') := Lib.hid (fun bx W h1 h2 => partGet_calls 0 (by omega) bx _ W h1 h2)
            clear ht hlt
            by_cases h1 : o.a < 0
            · go_wp2_with fail
              refine (HG.out _ _ ?_ ?_).mono ?_
              · simp
              · simp [go_sem]
              rintro e5 w5 ⟨rfl, hb5⟩
              obtain ⟨hc5, hf5⟩ := bcell hb5
              have p2 := hc5 wr.heap.size 2 (by simp; omega)
              have f2 := hf5 wr.heap.size 2 (by simp; omega)
              simp [go_sem] at p2 f2
              have hz5 := hb5.size
              simp at hz5
              clear hc5 hf5
              go_wp2
              go_step3
              refine ⟨rfl, ?_⟩
              go_wp2
              rw [Exit.noGoto_ret]
              go_ret
              exact ⟨by rw [HE.out, if_pos (slots_bad 0 (by omega) (Or.inl h1))]; rfl, by (repeat (first | exact Below.refl _ _ | (with_reducible assumption) | refine Below.drew ?_ | refine Below.drewN' ?_ _ | refine Below.alloc ?_ (by first | omega | (simp; done) | (simp; omega)) _ | refine Below.setCell ?_ (by first | omega | (simp; done) | (simp; omega)) _ | refine Below.then ?_ hb9 (by first | omega | (simp; done) | (simp; omega)) | refine Below.then ?_ hb8 (by first | omega | (simp; done) | (simp; omega)) | refine Below.then ?_ hb7 (by first | omega | (simp; done) | (simp; omega)) | refine Below.then ?_ hb6 (by first | omega | (simp; done) | (simp; omega)) | refine Below.then ?_ hb5 (by first | omega | (simp; done) | (simp; omega)) | refine Below.then ?_ hb4 (by first | omega | (simp; done) | (simp; omega)) | refine Below.then ?_ hb3 (by first | omega | (simp; done) | (simp; omega)) | refine Below.then ?_ hb2 (by first | omega | (simp; done) | (simp; omega)) | refine Below.then ?_ hb1 (by first | omega | (simp; done) | (simp; omega))))⟩
            · by_cases h2 : 6 ≤ o.a
              · go_wp2_with fail
                refine (HG.out _ _ ?_ ?_).mono ?_
                · simp
                · simp [go_sem]
                rintro e5 w5 ⟨rfl, hb5⟩
                obtain ⟨hc5, hf5⟩ := bcell hb5
                have p2 := hc5 wr.heap.size 2 (by simp; omega)
                have f2 := hf5 wr.heap.size 2 (by simp; omega)
                simp [go_sem] at p2 f2
                have hz5 := hb5.size
                simp at hz5
                clear hc5 hf5
                go_wp2
                go_step3
                refine ⟨rfl, ?_⟩
                go_wp2
                rw [Exit.noGoto_ret]
                go_ret
                exact ⟨by rw [HE.out, if_pos (slots_bad 0 (by omega) (Or.inr h2))]; rfl, by (repeat (first | exact Below.refl _ _ | (with_reducible assumption) | refine Below.drew ?_ | refine Below.drewN' ?_ _ | refine Below.alloc ?_ (by first | omega | (simp; done) | (simp; omega)) _ | refine Below.setCell ?_ (by first | omega | (simp; done) | (simp; omega)) _ | refine Below.then ?_ hb9 (by first | omega | (simp; done) | (simp; omega)) | refine Below.then ?_ hb8 (by first | omega | (simp; done) | (simp; omega)) | refine Below.then ?_ hb7 (by first | omega | (simp; done) | (simp; omega)) | refine Below.then ?_ hb6 (by first | omega | (simp; done) | (simp; omega)) | refine Below.then ?_ hb5 (by first | omega | (simp; done) | (simp; omega)) | refine Below.then ?_ hb4 (by first | omega | (simp; done) | (simp; omega)) | refine Below.then ?_ hb3 (by first | omega | (simp; done) | (simp; omega)) | refine Below.then ?_ hb2 (by first | omega | (simp; done) | (simp; omega)) | refine Below.then ?_ hb1 (by first | omega | (simp; done) | (simp; omega))))⟩
              · go_wp2_with fail
                refine (HG.out _ _ ?_ ?_).mono ?_
                · simp
                · simp [go_sem]
                rintro e5 w5 ⟨rfl, hb5⟩
                obtain ⟨hc5, hf5⟩ := bcell hb5
                have p2 := hc5 wr.heap.size 2 (by simp; omega)
                have f2 := hf5 wr.heap.size 2 (by simp; omega)
                simp [go_sem] at p2 f2
                have hz5 := hb5.size
                simp at hz5
                clear hc5 hf5
                go_wp2
                go_roundw
                case rel => exact ⟨1, 1, by omega, rfl, rfl, by (repeat (first | exact Below.refl _ _ | (with_reducible assumption) | refine Below.drew ?_ | refine Below.drewN' ?_ _ | refine Below.alloc ?_ (by first | omega | (simp; done) | (simp; omega)) _ | refine Below.setCell ?_ (by first | omega | (simp; done) | (simp; omega)) _ | refine Below.then ?_ hb9 (by first | omega | (simp; done) | (simp; omega)) | refine Below.then ?_ hb8 (by first | omega | (simp; done) | (simp; omega)) | refine Below.then ?_ hb7 (by first | omega | (simp; done) | (simp; omega)) | refine Below.then ?_ hb6 (by first | omega | (simp; done) | (simp; omega)) | refine Below.then ?_ hb5 (by first | omega | (simp; done) | (simp; omega)) | refine Below.then ?_ hb4 (by first | omega | (simp; done) | (simp; omega)) | refine Below.then ?_ hb3 (by first | omega | (simp; done) | (simp; omega)) | refine Below.then ?_ hb2 (by first | omega | (simp; done) | (simp; omega)) | refine Below.then ?_ hb1 (by first | omega | (simp; done) | (simp; omega)))), slots_succ HSL.out (fun h => ⟨by show 0 ≤ o.a; omega, by show o.a < 6; omega⟩)⟩
                case measure => simp [intOf]
          · obtain rfl : t = 1 := by omega
            have hi : ∀ W, (Instr.index 222 partsV (.int .i64 1)).run Try.prog W = .ok (.agg #[.func (.func 164) #[] #[], .nilFunc, .bool true]) W := fun W => by kernel_rfl
            have HG : Hid (∀ bx W, bx < W.heap.size → W.cell? ⟨bx, 2, none⟩ = some (.int .i64 o.b) → Calls Try.prog 138 #[.agg #[.func (.func 164) #[] #[], .nilFunc, .bool true], .pointer (some ⟨bx, 0, none⟩)] W fun e w' => e = .returned (.int .i64 o.b) ∧ Below W.heap.size W w') := Lib.hid (fun bx W h1 h2 => partGet_calls 1 (by omega) bx _ W h1 h2)
            clear ht hlt
            by_cases h1 : o.b < 0
            · go_wp2_with fail
              refine (HG.out _ _ ?_ ?_).mono ?_
              · simp
              · simp [go_sem]
              rintro e5 w5 ⟨rfl, hb5⟩
              obtain ⟨hc5, hf5⟩ := bcell hb5
              have p2 := hc5 wr.heap.size 2 (by simp; omega)
              have f2 := hf5 wr.heap.size 2 (by simp; omega)
              simp [go_sem] at p2 f2
              have hz5 := hb5.size
              simp at hz5
              clear hc5 hf5
              go_wp2
              go_step3
              refine ⟨rfl, ?_⟩
              go_wp2
              rw [Exit.noGoto_ret]
              go_ret
              exact ⟨by rw [HE.out, if_pos (slots_bad 1 (by omega) (Or.inl h1))]; rfl, by (repeat (first | exact Below.refl _ _ | (with_reducible assumption) | refine Below.drew ?_ | refine Below.drewN' ?_ _ | refine Below.alloc ?_ (by first | omega | (simp; done) | (simp; omega)) _ | refine Below.setCell ?_ (by first | omega | (simp; done) | (simp; omega)) _ | refine Below.then ?_ hb9 (by first | omega | (simp; done) | (simp; omega)) | refine Below.then ?_ hb8 (by first | omega | (simp; done) | (simp; omega)) | refine Below.then ?_ hb7 (by first | omega | (simp; done) | (simp; omega)) | refine Below.then ?_ hb6 (by first | omega | (simp; done) | (simp; omega)) | refine Below.then ?_ hb5 (by first | omega | (simp; done) | (simp; omega)) | refine Below.then ?_ hb4 (by first | omega | (simp; done) | (simp; omega)) | refine Below.then ?_ hb3 (by first | omega | (simp; done) | (simp; omega)) | refine Below.then ?_ hb2 (by first | omega | (simp; done) | (simp; omega)) | refine Below.then ?_ hb1 (by first | omega | (simp; done) | (simp; omega))))⟩
            · by_cases h2 : 6 ≤ o.b
              · go_wp2_with fail
                refine (HG.out _ _ ?_ ?_).mono ?_
                · simp
                · simp [go_sem]
                rintro e5 w5 ⟨rfl, hb5⟩
                obtain ⟨hc5, hf5⟩ := bcell hb5
                have p2 := hc5 wr.heap.size 2 (by simp; omega)
                have f2 := hf5 wr.heap.size 2 (by simp; omega)
                simp [go_sem] at p2 f2
                have hz5 := hb5.size
                simp at hz5
                clear hc5 hf5
                go_wp2
                go_step3
                refine ⟨rfl, ?_⟩
                go_wp2
                rw [Exit.noGoto_ret]
                go_ret
                exact ⟨by rw [HE.out, if_pos (slots_bad 1 (by omega) (Or.inr h2))]; rfl, by (repeat (first | exact Below.refl _ _ | (with_reducible assumption) | refine Below.drew ?_ | refine Below.drewN' ?_ _ | refine Below.alloc ?_ (by first | omega | (simp; done) | (simp; omega)) _ | refine Below.setCell ?_ (by first | omega | (simp; done) | (simp; omega)) _ | refine Below.then ?_ hb9 (by first | omega | (simp; done) | (simp; omega)) | refine Below.then ?_ hb8 (by first | omega | (simp; done) | (simp; omega)) | refine Below.then ?_ hb7 (by first | omega | (simp; done) | (simp; omega)) | refine Below.then ?_ hb6 (by first | omega | (simp; done) | (simp; omega)) | refine Below.then ?_ hb5 (by first | omega | (simp; done) | (simp; omega)) | refine Below.then ?_ hb4 (by first | omega | (simp; done) | (simp; omega)) | refine Below.then ?_ hb3 (by first | omega | (simp; done) | (simp; omega)) | refine Below.then ?_ hb2 (by first | omega | (simp; done) | (simp; omega)) | refine Below.then ?_ hb1 (by first | omega | (simp; done) | (simp; omega))))⟩
              · go_wp2_with fail
                refine (HG.out _ _ ?_ ?_).mono ?_
                · simp
                · simp [go_sem]
                rintro e5 w5 ⟨rfl, hb5⟩
                obtain ⟨hc5, hf5⟩ := bcell hb5
                have p2 := hc5 wr.heap.size 2 (by simp; omega)
                have f2 := hf5 wr.heap.size 2 (by simp; omega)
                simp [go_sem] at p2 f2
                have hz5 := hb5.size
                simp at hz5
                clear hc5 hf5
                go_wp2
                go_roundw
                case rel => exact ⟨2, 2, by omega, rfl, rfl, by (repeat (first | exact Below.refl _ _ | (with_reducible assumption) | refine Below.drew ?_ | refine Below.drewN' ?_ _ | refine Below.alloc ?_ (by first | omega | (simp; done) | (simp; omega)) _ | refine Below.setCell ?_ (by first | omega | (simp; done) | (simp; omega)) _ | refine Below.then ?_ hb9 (by first | omega | (simp; done) | (simp; omega)) | refine Below.then ?_ hb8 (by first | omega | (simp; done) | (simp; omega)) | refine Below.then ?_ hb7 (by first | omega | (simp; done) | (simp; omega)) | refine Below.then ?_ hb6 (by first | omega | (simp; done) | (simp; omega)) | refine Below.then ?_ hb5 (by first | omega | (simp; done) | (simp; omega)) | refine Below.then ?_ hb4 (by first | omega | (simp; done) | (simp; omega)) | refine Below.then ?_ hb3 (by first | omega | (simp; done) | (simp; omega)) | refine Below.then ?_ hb2 (by first | omega | (simp; done) | (simp; omega)) | refine Below.then ?_ hb1 (by first | omega | (simp; done) | (simp; omega)))), slots_succ HSL.out (fun h => ⟨by show 0 ≤ o.b; omega, by show o.b < 6; omega⟩)⟩
                case measure => simp [intOf]
          · obtain rfl : t = 2 := by omega
            have hi : ∀ W, (Instr.index 222 partsV (.int .i64 2)).run Try.prog W = .ok (.agg #[.func (.func 165) #[] #[], .nilFunc, .bool true]) W := fun W => by kernel_rfl
            have HG : Hid (∀ bx W, bx < W.heap.size → W.cell? ⟨bx, 3, none⟩ = some (.int .i64 o.c) → Calls Try.prog 138 #[.agg #[.func (.func 165) #[] #[], .nilFunc, .bool true], .pointer (some ⟨bx, 0, none⟩)] W fun e w' => e = .returned (.int .i64 o.c) ∧ Below W.heap.size W w') := Lib.hid (fun bx W h1 h2 => partGet_calls 2 (by omega) bx _ W h1 h2)
            clear ht hlt
            by_cases h1 : o.c < 0
            · go_wp2_with fail
              refine (HG.out _ _ ?_ ?_).mono ?_
              · simp
              · simp [go_sem]
              rintro e5 w5 ⟨rfl, hb5⟩
              obtain ⟨hc5, hf5⟩ := bcell hb5
              have p2 := hc5 wr.heap.size 2 (by simp; omega)
              have f2 := hf5 wr.heap.size 2 (by simp; omega)
              simp [go_sem] at p2 f2
              have hz5 := hb5.size
              simp at hz5
              clear hc5 hf5
              go_wp2
              go_step3
              refine ⟨rfl, ?_⟩
              go_wp2
              rw [Exit.noGoto_ret]
              go_ret
              exact ⟨by rw [HE.out, if_pos (slots_bad 2 (by omega) (Or.inl h1))]; rfl, by (repeat (first | exact Below.refl _ _ | (with_reducible assumption) | refine Below.drew ?_ | refine Below.drewN' ?_ _ | refine Below.alloc ?_ (by first | omega | (simp; done) | (simp; omega)) _ | refine Below.setCell ?_ (by first | omega | (simp; done) | (simp; omega)) _ | refine Below.then ?_ hb9 (by first | omega | (simp; done) | (simp; omega)) | refine Below.then ?_ hb8 (by first | omega | (simp; done) | (simp; omega)) | refine Below.then ?_ hb7 (by first | omega | (simp; done) | (simp; omega)) | refine Below.then ?_ hb6 (by first | omega | (simp; done) | (simp; omega)) | refine Below.then ?_ hb5 (by first | omega | (simp; done) | (simp; omega)) | refine Below.then ?_ hb4 (by first | omega | (simp; done) | (simp; omega)) | refine Below.then ?_ hb3 (by first | omega | (simp; done) | (simp; omega)) | refine Below.then ?_ hb2 (by first | omega | (simp; done) | (simp; omega)) | refine Below.then ?_ hb1 (by first | omega | (simp; done) | (simp; omega))))⟩
            · by_cases h2 : 6 ≤ o.c
              · go_wp2_with fail
                refine (HG.out _ _ ?_ ?_).mono ?_
                · simp
                · simp [go_sem]
                rintro e5 w5 ⟨rfl, hb5⟩
                obtain ⟨hc5, hf5⟩ := bcell hb5
                have p2 := hc5 wr.heap.size 2 (by simp; omega)
                have f2 := hf5 wr.heap.size 2 (by simp; omega)
                simp [go_sem] at p2 f2
                have hz5 := hb5.size
                simp at hz5
                clear hc5 hf5
                go_wp2
                go_step3
                refine ⟨rfl, ?_⟩
                go_wp2
                rw [Exit.noGoto_ret]
                go_ret
                exact ⟨by rw [HE.out, if_pos (slots_bad 2 (by omega) (Or.inr h2))]; rfl, by (repeat (first | exact Below.refl _ _ | (with_reducible assumption) | refine Below.drew ?_ | refine Below.drewN' ?_ _ | refine Below.alloc ?_ (by first | omega | (simp; done) | (simp; omega)) _ | refine Below.setCell ?_ (by first | omega | (simp; done) | (simp; omega)) _ | refine Below.then ?_ hb9 (by first | omega | (simp; done) | (simp; omega)) | refine Below.then ?_ hb8 (by first | omega | (simp; done) | (simp; omega)) | refine Below.then ?_ hb7 (by first | omega | (simp; done) | (simp; omega)) | refine Below.then ?_ hb6 (by first | omega | (simp; done) | (simp; omega)) | refine Below.then ?_ hb5 (by first | omega | (simp; done) | (simp; omega)) | refine Below.then ?_ hb4 (by first | omega | (simp; done) | (simp; omega)) | refine Below.then ?_ hb3 (by first | omega | (simp; done) | (simp; omega)) | refine Below.then ?_ hb2 (by first | omega | (simp; done) | (simp; omega)) | refine Below.then ?_ hb1 (by first | omega | (simp; done) | (simp; omega))))⟩
              · go_wp2_with fail
                refine (HG.out _ _ ?_ ?_).mono ?_
                · simp
                · simp [go_sem]
                rintro e5 w5 ⟨rfl, hb5⟩
                obtain ⟨hc5, hf5⟩ := bcell hb5
                have p2 := hc5 wr.heap.size 2 (by simp; omega)
                have f2 := hf5 wr.heap.size 2 (by simp; omega)
                simp [go_sem] at p2 f2
                have hz5 := hb5.size
                simp at hz5
                clear hc5 hf5
                go_wp2
                go_roundw
                case rel => exact ⟨3, 3, by omega, rfl, rfl, by (repeat (first | exact Below.refl _ _ | (with_reducible assumption) | refine Below.drew ?_ | refine Below.drewN' ?_ _ | refine Below.alloc ?_ (by first | omega | (simp; done) | (simp; omega)) _ | refine Below.setCell ?_ (by first | omega | (simp; done) | (simp; omega)) _ | refine Below.then ?_ hb9 (by first | omega | (simp; done) | (simp; omega)) | refine Below.then ?_ hb8 (by first | omega | (simp; done) | (simp; omega)) | refine Below.then ?_ hb7 (by first | omega | (simp; done) | (simp; omega)) | refine Below.then ?_ hb6 (by first | omega | (simp; done) | (simp; omega)) | refine Below.then ?_ hb5 (by first | omega | (simp; done) | (simp; omega)) | refine Below.then ?_ hb4 (by first | omega | (simp; done) | (simp; omega)) | refine Below.then ?_ hb3 (by first | omega | (simp; done) | (simp; omega)) | refine Below.then ?_ hb2 (by first | omega | (simp; done) | (simp; omega)) | refine Below.then ?_ hb1 (by first | omega | (simp; done) | (simp; omega)))), slots_succ HSL.out (fun h => ⟨by show 0 ≤ o.c; omega, by show o.c < 6; omega⟩)⟩
                case measure => simp [intOf]
          · obtain rfl : t = 3 := by omega
            have hi : ∀ W, (Instr.index 222 partsV (.int .i64 3)).run Try.prog W = .ok (.agg #[.func (.func 166) #[] #[], .nilFunc, .bool false]) W := fun W => by kernel_rfl
            have HG : Hid (∀ bx W, bx < W.heap.size → W.cell? ⟨bx, 4, none⟩ = some (.int .i64 o.f) → Calls Try.prog 138 #[.agg #[.func (.func 166) #[] #[], .nilFunc, .bool false], .pointer (some ⟨bx, 0, none⟩)] W fun e w' => e = .returned (.int .i64 o.f) ∧ Below W.heap.size W w') := Lib.hid (fun bx W h1 h2 => partGet_calls 3 (by omega) bx _ W h1 h2)
            clear ht hlt
            go_wp2_with fail
            refine (HG.out _ _ ?_ ?_).mono ?_
            · simp
            · simp [go_sem]
            rintro e5 w5 ⟨rfl, hb5⟩
            obtain ⟨hc5, hf5⟩ := bcell hb5
            have p2 := hc5 wr.heap.size 2 (by simp; omega)
            have f2 := hf5 wr.heap.size 2 (by simp; omega)
            simp [go_sem] at p2 f2
            have hz5 := hb5.size
            simp at hz5
            clear hc5 hf5
            go_wp2
            go_roundw
            case rel => exact ⟨4, 4, by omega, rfl, rfl, by (repeat (first | exact Below.refl _ _ | (with_reducible assumption) | refine Below.drew ?_ | refine Below.drewN' ?_ _ | refine Below.alloc ?_ (by first | omega | (simp; done) | (simp; omega)) _ | refine Below.setCell ?_ (by first | omega | (simp; done) | (simp; omega)) _ | refine Below.then ?_ hb9 (by first | omega | (simp; done) | (simp; omega)) | refine Below.then ?_ hb8 (by first | omega | (simp; done) | (simp; omega)) | refine Below.then ?_ hb7 (by first | omega | (simp; done) | (simp; omega)) | refine Below.then ?_ hb6 (by first | omega | (simp; done) | (simp; omega)) | refine Below.then ?_ hb5 (by first | omega | (simp; done) | (simp; omega)) | refine Below.then ?_ hb4 (by first | omega | (simp; done) | (simp; omega)) | refine Below.then ?_ hb3 (by first | omega | (simp; done) | (simp; omega)) | refine Below.then ?_ hb2 (by first | omega | (simp; done) | (simp; omega)) | refine Below.then ?_ hb1 (by first | omega | (simp; done) | (simp; omega)))), slots_succ HSL.out (fun h => by omega)⟩
            case measure => simp [intOf]
          · obtain rfl : t = 4 := by omega
            have hi : ∀ W, (Instr.index 222 partsV (.int .i64 4)).run Try.prog W = .ok (.agg #[.func (.func 167) #[] #[], .nilFunc, .bool false]) W := fun W => by kernel_rfl
            have HG : Hid (∀ bx W, bx < W.heap.size → W.cell? ⟨bx, 5, none⟩ = some (.int .i64 o.s) → Calls Try.prog 138 #[.agg #[.func (.func 167) #[] #[], .nilFunc, .bool false], .pointer (some ⟨bx, 0, none⟩)] W fun e w' => e = .returned (.int .i64 o.s) ∧ Below W.heap.size W w') := Lib.hid (fun bx W h1 h2 => partGet_calls 4 (by omega) bx _ W h1 h2)
            clear ht hlt
            go_wp2_with fail
            refine (HG.out _ _ ?_ ?_).mono ?_
            · simp
            · simp [go_sem]
            rintro e5 w5 ⟨rfl, hb5⟩
            obtain ⟨hc5, hf5⟩ := bcell hb5
            have p2 := hc5 wr.heap.size 2 (by simp; omega)
            have f2 := hf5 wr.heap.size 2 (by simp; omega)
            simp [go_sem] at p2 f2
            have hz5 := hb5.size
            simp at hz5
            clear hc5 hf5
            go_wp2
            go_roundw
            case rel => exact ⟨5, 5, by omega, rfl, rfl, by (repeat (first | exact Below.refl _ _ | (with_reducible assumption) | refine Below.drew ?_ | refine Below.drewN' ?_ _ | refine Below.alloc ?_ (by first | omega | (simp; done) | (simp; omega)) _ | refine Below.setCell ?_ (by first | omega | (simp; done) | (simp; omega)) _ | refine Below.then ?_ hb9 (by first | omega | (simp; done) | (simp; omega)) | refine Below.then ?_ hb8 (by first | omega | (simp; done) | (simp; omega)) | refine Below.then ?_ hb7 (by first | omega | (simp; done) | (simp; omega)) | refine Below.then ?_ hb6 (by first | omega | (simp; done) | (simp; omega)) | refine Below.then ?_ hb5 (by first | omega | (simp; done) | (simp; omega)) | refine Below.then ?_ hb4 (by first | omega | (simp; done) | (simp; omega)) | refine Below.then ?_ hb3 (by first | omega | (simp; done) | (simp; omega)) | refine Below.then ?_ hb2 (by first | omega | (simp; done) | (simp; omega)) | refine Below.then ?_ hb1 (by first | omega | (simp; done) | (simp; omega)))), slots_succ HSL.out (fun h => by omega)⟩
            case measure => simp [intOf]
          · obtain rfl : t = 5 := by omega
            have hi : ∀ W, (Instr.index 222 partsV (.int .i64 5)).run Try.prog W = .ok (.agg #[.nilFunc, .func (.func 168) #[] #[], .bool false]) W := fun W => by kernel_rfl
            have HG : Hid (∀ bx W, bx < W.heap.size → W.cell? ⟨bx, 6, none⟩ = some (.int .i64 o.x) → Calls Try.prog 138 #[.agg #[.nilFunc, .func (.func 168) #[] #[], .bool false], .pointer (some ⟨bx, 0, none⟩)] W fun e w' => e = .returned (.int .i64 o.x) ∧ Below W.heap.size W w') := Lib.hid (fun bx W h1 h2 => partGet_calls 5 (by omega) bx _ W h1 h2)
            clear ht hlt
            go_wp2_with fail
            refine (HG.out _ _ ?_ ?_).mono ?_
            · simp
            · simp [go_sem]
            rintro e5 w5 ⟨rfl, hb5⟩
            obtain ⟨hc5, hf5⟩ := bcell hb5
            have p2 := hc5 wr.heap.size 2 (by simp; omega)
            have f2 := hf5 wr.heap.size 2 (by simp; omega)
            simp [go_sem] at p2 f2
            have hz5 := hb5.size
            simp at hz5
            clear hc5 hf5
            go_wp2
            go_roundw
            case rel => exact ⟨6, 6, by omega, rfl, rfl, by (repeat (first | exact Below.refl _ _ | (with_reducible assumption) | refine Below.drew ?_ | refine Below.drewN' ?_ _ | refine Below.alloc ?_ (by first | omega | (simp; done) | (simp; omega)) _ | refine Below.setCell ?_ (by first | omega | (simp; done) | (simp; omega)) _ | refine Below.then ?_ hb9 (by first | omega | (simp; done) | (simp; omega)) | refine Below.then ?_ hb8 (by first | omega | (simp; done) | (simp; omega)) | refine Below.then ?_ hb7 (by first | omega | (simp; done) | (simp; omega)) | refine Below.then ?_ hb6 (by first | omega | (simp; done) | (simp; omega)) | refine Below.then ?_ hb5 (by first | omega | (simp; done) | (simp; omega)) | refine Below.then ?_ hb4 (by first | omega | (simp; done) | (simp; omega)) | refine Below.then ?_ hb3 (by first | omega | (simp; done) | (simp; omega)) | refine Below.then ?_ hb2 (by first | omega | (simp; done) | (simp; omega)) | refine Below.then ?_ hb1 (by first | omega | (simp; done) | (simp; omega)))), slots_succ HSL.out (fun h => by omega)⟩
            case measure => simp [intOf]
          · obtain rfl : t = 6 := by omega
            have hi : ∀ W, (Instr.index 222 partsV (.int .i64 6)).run Try.prog W = .ok (.agg #[.nilFunc, .func (.func 169) #[] #[], .bool false]) W := fun W => by kernel_rfl
            have HG : Hid (∀ bx W, bx < W.heap.size → W.cell? ⟨bx, 7, none⟩ = some (.int .i64 o.y) → Calls Try.prog 138 #[.agg #[.nilFunc, .func (.func 169) #[] #[], .bool false], .pointer (some ⟨bx, 0, none⟩)] W fun e w' => e = .returned (.int .i64 o.y) ∧ Below W.heap.size W w') := Lib.hid (fun bx W h1 h2 => partGet_calls 6 (by omega) bx _ W h1 h2)
            clear ht hlt
            go_wp2_with fail
            refine (HG.out _ _ ?_ ?_).mono ?_
            · simp
            · simp [go_sem]
            rintro e5 w5 ⟨rfl, hb5⟩
            obtain ⟨hc5, hf5⟩ := bcell hb5
            have p2 := hc5 wr.heap.size 2 (by simp; omega)
            have f2 := hf5 wr.heap.size 2 (by simp; omega)
            simp [go_sem] at p2 f2
            have hz5 := hb5.size
            simp at hz5
            clear hc5 hf5
            go_wp2
            go_roundw
            case rel => exact ⟨7, 7, by omega, rfl, rfl, by (repeat (first | exact Below.refl _ _ | (with_reducible assumption) | refine Below.drew ?_ | refine Below.drewN' ?_ _ | refine Below.alloc ?_ (by first | omega | (simp; done) | (simp; omega)) _ | refine Below.setCell ?_ (by first | omega | (simp; done) | (simp; omega)) _ | refine Below.then ?_ hb9 (by first | omega | (simp; done) | (simp; omega)) | refine Below.then ?_ hb8 (by first | omega | (simp; done) | (simp; omega)) | refine Below.then ?_ hb7 (by first | omega | (simp; done) | (simp; omega)) | refine Below.then ?_ hb6 (by first | omega | (simp; done) | (simp; omega)) | refine Below.then ?_ hb5 (by first | omega | (simp; done) | (simp; omega)) | refine Below.then ?_ hb4 (by first | omega | (simp; done) | (simp; omega)) | refine Below.then ?_ hb3 (by first | omega | (simp; done) | (simp; omega)) | refine Below.then ?_ hb2 (by first | omega | (simp; done) | (simp; omega)) | refine Below.then ?_ hb1 (by first | omega | (simp; done) | (simp; omega)))), slots_succ HSL.out (fun h => by omega)⟩
            case measure => simp [intOf]
        · obtain rfl : j = 7 := by omega
          obtain rfl : t = 7 := by omega
          have HE2 := Lib.hid (show checkO ss o = if o.k = 1 then ofE ss o.s else if scalB o = false then 182 else 0 by rw [HE.out, if_neg (by rw [slots_all HSL.out]; decide)])
          have HSL2 := Lib.hid (((HS.out.alloc (.cells #[.int .i64 o.k, .int .i64 o.a, .int .i64 o.b, .int .i64 o.c, .int .i64 o.f, .int .i64 o.s, .int .i64 o.x, .int .i64 o.y] 93)).below hb1).below ((hb2.trans (hb3.mono (by omega))).trans (hb9.mono (by omega))))
          clear ht hlt
          by_cases h1 : o.k = 1
          · have g1 : (o.k == 1) = true := by rw [h1]; rfl
            have HE3 := Lib.hid (show checkO ss o = ofE ss o.s by rw [HE2.out, if_pos h1])
            clear h1
            go_wp2_with fail
            refine (HZ.out _ _ HSL2.out).mono ?_; rintro e6 w6 ⟨rfl, hb6⟩; have hz6 := hb6.size; (try simp at hz6)
            go_wp2
            simp only [Exit.jump]
            go_ret
            exact ⟨by rw [HE3.out]; rfl, by (repeat (first | exact Below.refl _ _ | (with_reducible assumption) | refine Below.drew ?_ | refine Below.drewN' ?_ _ | refine Below.alloc ?_ (by first | omega | (simp; done) | (simp; omega)) _ | refine Below.setCell ?_ (by first | omega | (simp; done) | (simp; omega)) _ | refine Below.then ?_ hb9 (by first | omega | (simp; done) | (simp; omega)) | refine Below.then ?_ hb8 (by first | omega | (simp; done) | (simp; omega)) | refine Below.then ?_ hb7 (by first | omega | (simp; done) | (simp; omega)) | refine Below.then ?_ hb6 (by first | omega | (simp; done) | (simp; omega)) | refine Below.then ?_ hb5 (by first | omega | (simp; done) | (simp; omega)) | refine Below.then ?_ hb4 (by first | omega | (simp; done) | (simp; omega)) | refine Below.then ?_ hb3 (by first | omega | (simp; done) | (simp; omega)) | refine Below.then ?_ hb2 (by first | omega | (simp; done) | (simp; omega)) | refine Below.then ?_ hb1 (by first | omega | (simp; done) | (simp; omega))))⟩
          · have g1 : (o.k == 1) = false := by rw [beq_eq_false_iff_ne]; exact h1
            have HE3 := Lib.hid (show checkO ss o = if scalB o = false then 182 else 0 by rw [HE2.out, if_neg h1])
            clear h1
            go_wp2_with fail
            go_loop [53] (fun i => ∃ (j : Nat) (t : Int), j ≤ 2 ∧ i = .int .i64 t ∧ t = j ∧ (1 ≤ j → -576460752303423488 ≤ o.x ∧ o.x ≤ 576460752303423487) ∧ (2 ≤ j → -576460752303423488 ≤ o.y ∧ o.y ≤ 576460752303423487)) (fun i => 2 - (intOf i).toNat)
            case atStart => exact ⟨0, 0, by omega, rfl, rfl, fun h => by omega, fun h => by omega⟩
            case round =>
              obtain ⟨j, t, hj, rfl, ht, hX, hY⟩ := hrel
              have HX := Lib.hid hX
              have HY := Lib.hid hY
              clear hX hY
              by_cases hlt : j < 2
              · obtain rfl | rfl : j = 0 ∨ j = 1 := by omega
                · obtain rfl : t = 0 := by omega
                  have hi : ∀ W, (Instr.index 228 (.agg #[.int .i64 o.x, .int .i64 o.y]) (.int .i64 0)).run Try.prog W = .ok (.int .i64 o.x) W := fun W => by kernel_rfl
                  clear ht hlt
                  by_cases h1 : o.x < -576460752303423488
                  · go_wp2
                    go_step3
                    refine ⟨rfl, ?_⟩
                    go_wp2
                    rw [Exit.noGoto_ret]
                    go_ret
                    exact ⟨by rw [HE3.out, if_pos (scal_bad (by omega))]; rfl, by (repeat (first | exact Below.refl _ _ | (with_reducible assumption) | refine Below.drew ?_ | refine Below.drewN' ?_ _ | refine Below.alloc ?_ (by first | omega | (simp; done) | (simp; omega)) _ | refine Below.setCell ?_ (by first | omega | (simp; done) | (simp; omega)) _ | refine Below.then ?_ hb9 (by first | omega | (simp; done) | (simp; omega)) | refine Below.then ?_ hb8 (by first | omega | (simp; done) | (simp; omega)) | refine Below.then ?_ hb7 (by first | omega | (simp; done) | (simp; omega)) | refine Below.then ?_ hb6 (by first | omega | (simp; done) | (simp; omega)) | refine Below.then ?_ hb5 (by first | omega | (simp; done) | (simp; omega)) | refine Below.then ?_ hb4 (by first | omega | (simp; done) | (simp; omega)) | refine Below.then ?_ hb3 (by first | omega | (simp; done) | (simp; omega)) | refine Below.then ?_ hb2 (by first | omega | (simp; done) | (simp; omega)) | refine Below.then ?_ hb1 (by first | omega | (simp; done) | (simp; omega))))⟩
                  · by_cases h2 : 576460752303423487 < o.x
                    · go_wp2
                      go_step3
                      refine ⟨rfl, ?_⟩
                      go_wp2
                      rw [Exit.noGoto_ret]
                      go_ret
                      exact ⟨by rw [HE3.out, if_pos (scal_bad (by omega))]; rfl, by (repeat (first | exact Below.refl _ _ | (with_reducible assumption) | refine Below.drew ?_ | refine Below.drewN' ?_ _ | refine Below.alloc ?_ (by first | omega | (simp; done) | (simp; omega)) _ | refine Below.setCell ?_ (by first | omega | (simp; done) | (simp; omega)) _ | refine Below.then ?_ hb9 (by first | omega | (simp; done) | (simp; omega)) | refine Below.then ?_ hb8 (by first | omega | (simp; done) | (simp; omega)) | refine Below.then ?_ hb7 (by first | omega | (simp; done) | (simp; omega)) | refine Below.then ?_ hb6 (by first | omega | (simp; done) | (simp; omega)) | refine Below.then ?_ hb5 (by first | omega | (simp; done) | (simp; omega)) | refine Below.then ?_ hb4 (by first | omega | (simp; done) | (simp; omega)) | refine Below.then ?_ hb3 (by first | omega | (simp; done) | (simp; omega)) | refine Below.then ?_ hb2 (by first | omega | (simp; done) | (simp; omega)) | refine Below.then ?_ hb1 (by first | omega | (simp; done) | (simp; omega))))⟩
                    · go_wp2
                      go_round
                      case rel => exact ⟨1, 1, by omega, rfl, rfl, fun h => ⟨by omega, by omega⟩, fun h => by omega⟩
                      case measure => simp [intOf]
                · obtain rfl : t = 1 := by omega
                  have hi : ∀ W, (Instr.index 228 (.agg #[.int .i64 o.x, .int .i64 o.y]) (.int .i64 1)).run Try.prog W = .ok (.int .i64 o.y) W := fun W => by kernel_rfl
                  clear ht hlt
                  by_cases h1 : o.y < -576460752303423488
                  · go_wp2
                    go_step3
                    refine ⟨rfl, ?_⟩
                    go_wp2
                    rw [Exit.noGoto_ret]
                    go_ret
                    exact ⟨by rw [HE3.out, if_pos (scal_bad (by omega))]; rfl, by (repeat (first | exact Below.refl _ _ | (with_reducible assumption) | refine Below.drew ?_ | refine Below.drewN' ?_ _ | refine Below.alloc ?_ (by first | omega | (simp; done) | (simp; omega)) _ | refine Below.setCell ?_ (by first | omega | (simp; done) | (simp; omega)) _ | refine Below.then ?_ hb9 (by first | omega | (simp; done) | (simp; omega)) | refine Below.then ?_ hb8 (by first | omega | (simp; done) | (simp; omega)) | refine Below.then ?_ hb7 (by first | omega | (simp; done) | (simp; omega)) | refine Below.then ?_ hb6 (by first | omega | (simp; done) | (simp; omega)) | refine Below.then ?_ hb5 (by first | omega | (simp; done) | (simp; omega)) | refine Below.then ?_ hb4 (by first | omega | (simp; done) | (simp; omega)) | refine Below.then ?_ hb3 (by first | omega | (simp; done) | (simp; omega)) | refine Below.then ?_ hb2 (by first | omega | (simp; done) | (simp; omega)) | refine Below.then ?_ hb1 (by first | omega | (simp; done) | (simp; omega))))⟩
                  · by_cases h2 : 576460752303423487 < o.y
                    · go_wp2
                      go_step3
                      refine ⟨rfl, ?_⟩
                      go_wp2
                      rw [Exit.noGoto_ret]
                      go_ret
                      exact ⟨by rw [HE3.out, if_pos (scal_bad (by omega))]; rfl, by (repeat (first | exact Below.refl _ _ | (with_reducible assumption) | refine Below.drew ?_ | refine Below.drewN' ?_ _ | refine Below.alloc ?_ (by first | omega | (simp; done) | (simp; omega)) _ | refine Below.setCell ?_ (by first | omega | (simp; done) | (simp; omega)) _ | refine Below.then ?_ hb9 (by first | omega | (simp; done) | (simp; omega)) | refine Below.then ?_ hb8 (by first | omega | (simp; done) | (simp; omega)) | refine Below.then ?_ hb7 (by first | omega | (simp; done) | (simp; omega)) | refine Below.then ?_ hb6 (by first | omega | (simp; done) | (simp; omega)) | refine Below.then ?_ hb5 (by first | omega | (simp; done) | (simp; omega)) | refine Below.then ?_ hb4 (by first | omega | (simp; done) | (simp; omega)) | refine Below.then ?_ hb3 (by first | omega | (simp; done) | (simp; omega)) | refine Below.then ?_ hb2 (by first | omega | (simp; done) | (simp; omega)) | refine Below.then ?_ hb1 (by first | omega | (simp; done) | (simp; omega))))⟩
                    · go_wp2
                      go_round
                      case rel => exact ⟨2, 2, by omega, rfl, rfl, fun h => HX.out (by omega), fun h => ⟨by omega, by omega⟩⟩
                      case measure => simp [intOf]
              · obtain rfl : j = 2 := by omega
                obtain rfl : t = 2 := by omega
                have hx := HX.out (by omega)
                have hy := HY.out (by omega)
                clear ht hlt
                go_wp2
                simp only [Exit.jump]
                go_ret
                exact ⟨by rw [HE3.out, if_neg (by rw [scal_ok hx hy]; decide)]; rfl, by (repeat (first | exact Below.refl _ _ | (with_reducible assumption) | refine Below.drew ?_ | refine Below.drewN' ?_ _ | refine Below.alloc ?_ (by first | omega | (simp; done) | (simp; omega)) _ | refine Below.setCell ?_ (by first | omega | (simp; done) | (simp; omega)) _ | refine Below.then ?_ hb9 (by first | omega | (simp; done) | (simp; omega)) | refine Below.then ?_ hb8 (by first | omega | (simp; done) | (simp; omega)) | refine Below.then ?_ hb7 (by first | omega | (simp; done) | (simp; omega)) | refine Below.then ?_ hb6 (by first | omega | (simp; done) | (simp; omega)) | refine Below.then ?_ hb5 (by first | omega | (simp; done) | (simp; omega)) | refine Below.then ?_ hb4 (by first | omega | (simp; done) | (simp; omega)) | refine Below.then ?_ hb3 (by first | omega | (simp; done) | (simp; omega)) | refine Below.then ?_ hb2 (by first | omega | (simp; done) | (simp; omega)) | refine Below.then ?_ hb1 (by first | omega | (simp; done) | (simp; omega))))⟩

end Go.Proofs.Ytafenndokmccoaa
