/- Small contracts: buffers; fit words. -/
import Derived.Test.YtafenndokmccoaaFitB
namespace Go.Proofs.Ytafenndokmccoaa
open Go.RowKit
set_option linter.unusedVariables false
set_option linter.unusedSimpArgs false

theorem wf64 {n : Int} (h : (Lit.int .i64 n).wf = true) : -9223372036854775808 ≤ n ∧ n ≤ 9223372036854775807 := by
  simpa [Lit.wf, IntKind.min, IntKind.max, IntKind.signed, IntKind.bits] using h
/-- may an address be one of an object; may a word be a root -/
def insB (t sp : Int) (ss : List ByteArray) (x : Int) : Bool := decide (partE t sp ss x = 0) && decide (partK t sp ss x = 6) && decide (partA t sp ss x < sp - 1)
def wfitB (t sp : Int) (ss : List ByteArray) (x : Int) : Bool := planB t sp ss && (decide (x = 0) || (decide (wdK x = 2) && !wdS x && insB t sp ss (wdV x)))

theorem partA_range {t sp : Int} {ss : List ByteArray} {x : Int} : 0 ≤ partA t sp ss x ∧ partA t sp ss x ≤ 4096 := by
  unfold partA
  split
  · rename_i h
    have hp : planB t sp ss = true := by
      cases hp : planB t sp ss with
      | true => rfl
      | false => simp [partE, placeE, hp] at h
    obtain ⟨b1, b2, b3, b4, _⟩ := plan_ok hp
    split
    · omega
    · have := Int.emod_nonneg (x - (3 + 2 * t)) (show sp ≠ 0 by omega)
      have := Int.emod_lt_of_pos (x - (3 + 2 * t)) (show 0 < sp by omega)
      omega
  · omega

set_option maxRecDepth 100000 in
theorem inside_calls (t sp : Int) (a : Option Addr) (c : Nat) (ss : List ByteArray) (x : Int) (hn : ss.length ≤ maxLen) (hp : planB t sp ss = true) (w : World) (h : SlOf w a (strV ss)) :
    Calls Try.prog 116 #[.agg #[.int .i64 t, .int .i64 sp, .slice a ss.length c], .int .i64 x] w fun e w' => e = .returned (.bool (insB t sp ss x)) ∧ Below w.heap.size w w' := by
  have HS := Lib.hid h
  have hsz := fun w h => layPart_calls t sp a c ss x hn w h
  clear h
  obtain ⟨b1, b2, b3, b4, _⟩ := plan_ok hp
  unfold insB
  have hA := partA_range (t := t) (sp := sp) (ss := ss) (x := x)
  generalize partE t sp ss x = pe at hsz
  generalize partK t sp ss x = pk at hsz
  generalize partN t sp ss x = pn at hsz
  generalize partA t sp ss x = pa at hsz hA
  have HZ := Lib.hid hsz
  have hw : IntKind.i64.wrap (sp - 1) = sp - 1 := IntWalk.i64_in _ (by omega)
  clear hsz hp
  by_cases h1 : pe = 0
  · subst h1
    by_cases h2 : pk = 6
    · subst h2
      rw [show (decide ((0 : Int) = 0) && decide ((6 : Int) = 6) && decide (pa < sp - 1)) = decide (pa < sp - 1) by simp]
      go_enter Try.func116, Try.ntmps116
      go_wp2_with fail
      refine (HZ.out _ (HS.out.alloc _)).mono ?_; rintro e1 w1 ⟨rfl, hb1⟩; obtain ⟨hc1, hf1⟩ := bcell hb1; have hz1 := hb1.size; (try simp at hz1)
      have q1 := hc1 w.heap.size 1 (by first | omega | (simp; done) | (simp; omega)); simp [go_sem] at q1
      have l1 : w.heap.size < w1.heap.size := by first | omega | (simp; done) | (simp; omega)
      go_wp2
      go_ret
      exact ⟨rfl, by (repeat (first | exact Below.refl _ _ | (with_reducible assumption) | refine Below.drew ?_ | refine Below.drewN' ?_ _ | refine Below.alloc ?_ (by first | omega | (simp; done) | (simp; omega)) _ | refine Below.setCell ?_ (by first | omega | (simp; done) | (simp; omega)) _ | refine Below.then ?_ hb9 (by first | omega | (simp; done) | (simp; omega)) | refine Below.then ?_ hb8 (by first | omega | (simp; done) | (simp; omega)) | refine Below.then ?_ hb7 (by first | omega | (simp; done) | (simp; omega)) | refine Below.then ?_ hb6 (by first | omega | (simp; done) | (simp; omega)) | refine Below.then ?_ hb5 (by first | omega | (simp; done) | (simp; omega)) | refine Below.then ?_ hb4 (by first | omega | (simp; done) | (simp; omega)) | refine Below.then ?_ hb3 (by first | omega | (simp; done) | (simp; omega)) | refine Below.then ?_ hb2 (by first | omega | (simp; done) | (simp; omega)) | refine Below.then ?_ hb1 (by first | omega | (simp; done) | (simp; omega))))⟩
    · rw [show (decide ((0 : Int) = 0) && decide (pk = 6) && decide (pa < sp - 1)) = false by simp [h2]]
      have g2 : (pk == 6) = false := beq_eq_false_iff_ne.2 h2
      go_enter Try.func116, Try.ntmps116
      go_wp2_with fail
      refine (HZ.out _ (HS.out.alloc _)).mono ?_; rintro e1 w1 ⟨rfl, hb1⟩; obtain ⟨hc1, hf1⟩ := bcell hb1; have hz1 := hb1.size; (try simp at hz1)
      have q1 := hc1 w.heap.size 1 (by first | omega | (simp; done) | (simp; omega)); simp [go_sem] at q1
      have l1 : w.heap.size < w1.heap.size := by first | omega | (simp; done) | (simp; omega)
      go_wp2
      go_ret
      exact ⟨rfl, by (repeat (first | exact Below.refl _ _ | (with_reducible assumption) | refine Below.drew ?_ | refine Below.drewN' ?_ _ | refine Below.alloc ?_ (by first | omega | (simp; done) | (simp; omega)) _ | refine Below.setCell ?_ (by first | omega | (simp; done) | (simp; omega)) _ | refine Below.then ?_ hb9 (by first | omega | (simp; done) | (simp; omega)) | refine Below.then ?_ hb8 (by first | omega | (simp; done) | (simp; omega)) | refine Below.then ?_ hb7 (by first | omega | (simp; done) | (simp; omega)) | refine Below.then ?_ hb6 (by first | omega | (simp; done) | (simp; omega)) | refine Below.then ?_ hb5 (by first | omega | (simp; done) | (simp; omega)) | refine Below.then ?_ hb4 (by first | omega | (simp; done) | (simp; omega)) | refine Below.then ?_ hb3 (by first | omega | (simp; done) | (simp; omega)) | refine Below.then ?_ hb2 (by first | omega | (simp; done) | (simp; omega)) | refine Below.then ?_ hb1 (by first | omega | (simp; done) | (simp; omega))))⟩
  · rw [show (decide (pe = 0) && decide (pk = 6) && decide (pa < sp - 1)) = false by simp [h1]]
    have g2 : (pe == 0) = false := beq_eq_false_iff_ne.2 h1
    go_enter Try.func116, Try.ntmps116
    go_wp2_with fail
    refine (HZ.out _ (HS.out.alloc _)).mono ?_; rintro e1 w1 ⟨rfl, hb1⟩; obtain ⟨hc1, hf1⟩ := bcell hb1; have hz1 := hb1.size; (try simp at hz1)
    have q1 := hc1 w.heap.size 1 (by first | omega | (simp; done) | (simp; omega)); simp [go_sem] at q1
    have l1 : w.heap.size < w1.heap.size := by first | omega | (simp; done) | (simp; omega)
    go_wp2
    go_ret
    exact ⟨rfl, by (repeat (first | exact Below.refl _ _ | (with_reducible assumption) | refine Below.drew ?_ | refine Below.drewN' ?_ _ | refine Below.alloc ?_ (by first | omega | (simp; done) | (simp; omega)) _ | refine Below.setCell ?_ (by first | omega | (simp; done) | (simp; omega)) _ | refine Below.then ?_ hb9 (by first | omega | (simp; done) | (simp; omega)) | refine Below.then ?_ hb8 (by first | omega | (simp; done) | (simp; omega)) | refine Below.then ?_ hb7 (by first | omega | (simp; done) | (simp; omega)) | refine Below.then ?_ hb6 (by first | omega | (simp; done) | (simp; omega)) | refine Below.then ?_ hb5 (by first | omega | (simp; done) | (simp; omega)) | refine Below.then ?_ hb4 (by first | omega | (simp; done) | (simp; omega)) | refine Below.then ?_ hb3 (by first | omega | (simp; done) | (simp; omega)) | refine Below.then ?_ hb2 (by first | omega | (simp; done) | (simp; omega)) | refine Below.then ?_ hb1 (by first | omega | (simp; done) | (simp; omega))))⟩

set_option maxRecDepth 100000 in
theorem fit_calls (t sp : Int) (a : Option Addr) (c : Nat) (ss : List ByteArray) (x : Int) (h0 : 0 ≤ x) (h1 : x < 18446744073709551616) (hn : ss.length ≤ maxLen) (w : World) (h : SlOf w a (strV ss)) :
    Calls Try.prog 96 #[.agg #[.int .i64 t, .int .i64 sp, .slice a ss.length c], .int .u64 x] w fun e w' => e = .returned (.bool (wfitB t sp ss x)) ∧ Below w.heap.size w w' := by
  have HS := Lib.hid h
  have hck := fun w h => layCheck_calls t sp a c ss hn w h
  clear h
  cases hp : planB t sp ss with
  | false =>
    have e1 : planE t sp ss = 2 := by simp [planE, hp]
    have e2 : wfitB t sp ss x = false := by simp [wfitB, hp]
    rw [e1] at hck
    rw [e2]
    have HC := Lib.hid hck
    clear hck e1 e2 hp
    go_enter Try.func96, Try.ntmps96
    go_wp2_with fail
    refine (HC.out _ (HS.out.alloc _)).mono ?_; rintro e1 w1 ⟨rfl, hb1⟩; obtain ⟨hc1, hf1⟩ := bcell hb1; have hz1 := hb1.size; (try simp at hz1)
    go_wp2
    go_ret
    exact ⟨rfl, by (repeat (first | exact Below.refl _ _ | (with_reducible assumption) | refine Below.drew ?_ | refine Below.drewN' ?_ _ | refine Below.alloc ?_ (by first | omega | (simp; done) | (simp; omega)) _ | refine Below.setCell ?_ (by first | omega | (simp; done) | (simp; omega)) _ | refine Below.then ?_ hb9 (by first | omega | (simp; done) | (simp; omega)) | refine Below.then ?_ hb8 (by first | omega | (simp; done) | (simp; omega)) | refine Below.then ?_ hb7 (by first | omega | (simp; done) | (simp; omega)) | refine Below.then ?_ hb6 (by first | omega | (simp; done) | (simp; omega)) | refine Below.then ?_ hb5 (by first | omega | (simp; done) | (simp; omega)) | refine Below.then ?_ hb4 (by first | omega | (simp; done) | (simp; omega)) | refine Below.then ?_ hb3 (by first | omega | (simp; done) | (simp; omega)) | refine Below.then ?_ hb2 (by first | omega | (simp; done) | (simp; omega)) | refine Below.then ?_ hb1 (by first | omega | (simp; done) | (simp; omega))))⟩
  | true =>
    have e1 : planE t sp ss = 0 := by simp [planE, hp]
    rw [e1] at hck
    have HC := Lib.hid hck
    have HI := Lib.hid (fun W h => inside_calls t sp a c ss (wdV x) hn hp W h)
    have HO := Lib.hid (fun W => wOf_calls x h0 h1 W)
    have e2 : wfitB t sp ss x = (decide (x = 0) || (decide (wdK x = 2) && !wdS x && insB t sp ss (wdV x))) := by simp [wfitB, hp]
    rw [e2]
    clear hck e1 e2 hp
    generalize insB t sp ss (wdV x) = ib at HI
    generalize wdV x = v at HI HO
    generalize wdK x = k at HO
    generalize wdS x = s at HO
    by_cases hx : x = 0
    · subst hx
      rw [show (decide ((0 : Int) = 0) || (decide (k = 2) && !s && ib)) = true by simp]
      go_enter Try.func96, Try.ntmps96
      go_wp2_with fail
      refine (HC.out _ (HS.out.alloc _)).mono ?_; rintro e1 w1 ⟨rfl, hb1⟩; obtain ⟨hc1, hf1⟩ := bcell hb1; have hz1 := hb1.size; (try simp at hz1)
      go_wp2_with fail
      refine (HO.out _).mono ?_; rintro e2 w2 ⟨rfl, hb2⟩; obtain ⟨hc2, hf2⟩ := bcell hb2; have hz2 := hb2.size; (try simp at hz2)
      go_wp2
      go_ret
      exact ⟨rfl, by (repeat (first | exact Below.refl _ _ | (with_reducible assumption) | refine Below.drew ?_ | refine Below.drewN' ?_ _ | refine Below.alloc ?_ (by first | omega | (simp; done) | (simp; omega)) _ | refine Below.setCell ?_ (by first | omega | (simp; done) | (simp; omega)) _ | refine Below.then ?_ hb9 (by first | omega | (simp; done) | (simp; omega)) | refine Below.then ?_ hb8 (by first | omega | (simp; done) | (simp; omega)) | refine Below.then ?_ hb7 (by first | omega | (simp; done) | (simp; omega)) | refine Below.then ?_ hb6 (by first | omega | (simp; done) | (simp; omega)) | refine Below.then ?_ hb5 (by first | omega | (simp; done) | (simp; omega)) | refine Below.then ?_ hb4 (by first | omega | (simp; done) | (simp; omega)) | refine Below.then ?_ hb3 (by first | omega | (simp; done) | (simp; omega)) | refine Below.then ?_ hb2 (by first | omega | (simp; done) | (simp; omega)) | refine Below.then ?_ hb1 (by first | omega | (simp; done) | (simp; omega))))⟩
    · have gx : (x == 0) = false := beq_eq_false_iff_ne.2 hx
      by_cases hk : k = 2
      · subst hk
        cases s with
        | true =>
          rw [show (decide (x = 0) || (decide ((2 : Int) = 2) && !true && ib)) = false by simp [hx]]
          go_enter Try.func96, Try.ntmps96
          go_wp2_with fail
          refine (HC.out _ (HS.out.alloc _)).mono ?_; rintro e1 w1 ⟨rfl, hb1⟩; obtain ⟨hc1, hf1⟩ := bcell hb1; have hz1 := hb1.size; (try simp at hz1)
          go_wp2_with fail
          refine (HO.out _).mono ?_; rintro e2 w2 ⟨rfl, hb2⟩; obtain ⟨hc2, hf2⟩ := bcell hb2; have hz2 := hb2.size; (try simp at hz2)
          go_wp2
          go_ret
          exact ⟨rfl, by (repeat (first | exact Below.refl _ _ | (with_reducible assumption) | refine Below.drew ?_ | refine Below.drewN' ?_ _ | refine Below.alloc ?_ (by first | omega | (simp; done) | (simp; omega)) _ | refine Below.setCell ?_ (by first | omega | (simp; done) | (simp; omega)) _ | refine Below.then ?_ hb9 (by first | omega | (simp; done) | (simp; omega)) | refine Below.then ?_ hb8 (by first | omega | (simp; done) | (simp; omega)) | refine Below.then ?_ hb7 (by first | omega | (simp; done) | (simp; omega)) | refine Below.then ?_ hb6 (by first | omega | (simp; done) | (simp; omega)) | refine Below.then ?_ hb5 (by first | omega | (simp; done) | (simp; omega)) | refine Below.then ?_ hb4 (by first | omega | (simp; done) | (simp; omega)) | refine Below.then ?_ hb3 (by first | omega | (simp; done) | (simp; omega)) | refine Below.then ?_ hb2 (by first | omega | (simp; done) | (simp; omega)) | refine Below.then ?_ hb1 (by first | omega | (simp; done) | (simp; omega))))⟩
        | false =>
          rw [show (decide (x = 0) || (decide ((2 : Int) = 2) && !false && ib)) = ib by simp [hx]]
          go_enter Try.func96, Try.ntmps96
          go_wp2_with fail
          refine (HC.out _ (HS.out.alloc _)).mono ?_; rintro e1 w1 ⟨rfl, hb1⟩; obtain ⟨hc1, hf1⟩ := bcell hb1; have hz1 := hb1.size; (try simp at hz1)
          have q0 := hc1 w.heap.size 0 (by first | omega | (simp; done) | (simp; omega)); simp [go_sem] at q0
          have q1 := hc1 w.heap.size 1 (by first | omega | (simp; done) | (simp; omega)); simp [go_sem] at q1
          have q2 := hc1 w.heap.size 2 (by first | omega | (simp; done) | (simp; omega)); simp [go_sem] at q2
          go_wp2_with fail
          refine (HO.out _).mono ?_; rintro e2 w2 ⟨rfl, hb2⟩; obtain ⟨hc2, hf2⟩ := bcell hb2; have hz2 := hb2.size; (try simp at hz2)
          have l1 : w.heap.size < w1.heap.size := by first | omega | (simp; done) | (simp; omega)
          replace q0 := hold_cell (w2 := w2) q0 (by (repeat (first | exact Below.refl _ _ | (with_reducible assumption) | refine Below.drew ?_ | refine Below.drewN' ?_ _ | refine Below.alloc ?_ (by first | omega | (simp; done) | (simp; omega)) _ | refine Below.setCell ?_ (by first | omega | (simp; done) | (simp; omega)) _ | refine Below.then ?_ hb9 (by first | omega | (simp; done) | (simp; omega)) | refine Below.then ?_ hb8 (by first | omega | (simp; done) | (simp; omega)) | refine Below.then ?_ hb7 (by first | omega | (simp; done) | (simp; omega)) | refine Below.then ?_ hb6 (by first | omega | (simp; done) | (simp; omega)) | refine Below.then ?_ hb5 (by first | omega | (simp; done) | (simp; omega)) | refine Below.then ?_ hb4 (by first | omega | (simp; done) | (simp; omega)) | refine Below.then ?_ hb3 (by first | omega | (simp; done) | (simp; omega)) | refine Below.then ?_ hb2 (by first | omega | (simp; done) | (simp; omega)) | refine Below.then ?_ hb1 (by first | omega | (simp; done) | (simp; omega))))) (by first | omega | (simp; done) | (simp; omega))
          replace q1 := hold_cell (w2 := w2) q1 (by (repeat (first | exact Below.refl _ _ | (with_reducible assumption) | refine Below.drew ?_ | refine Below.drewN' ?_ _ | refine Below.alloc ?_ (by first | omega | (simp; done) | (simp; omega)) _ | refine Below.setCell ?_ (by first | omega | (simp; done) | (simp; omega)) _ | refine Below.then ?_ hb9 (by first | omega | (simp; done) | (simp; omega)) | refine Below.then ?_ hb8 (by first | omega | (simp; done) | (simp; omega)) | refine Below.then ?_ hb7 (by first | omega | (simp; done) | (simp; omega)) | refine Below.then ?_ hb6 (by first | omega | (simp; done) | (simp; omega)) | refine Below.then ?_ hb5 (by first | omega | (simp; done) | (simp; omega)) | refine Below.then ?_ hb4 (by first | omega | (simp; done) | (simp; omega)) | refine Below.then ?_ hb3 (by first | omega | (simp; done) | (simp; omega)) | refine Below.then ?_ hb2 (by first | omega | (simp; done) | (simp; omega)) | refine Below.then ?_ hb1 (by first | omega | (simp; done) | (simp; omega))))) (by first | omega | (simp; done) | (simp; omega))
          replace q2 := hold_cell (w2 := w2) q2 (by (repeat (first | exact Below.refl _ _ | (with_reducible assumption) | refine Below.drew ?_ | refine Below.drewN' ?_ _ | refine Below.alloc ?_ (by first | omega | (simp; done) | (simp; omega)) _ | refine Below.setCell ?_ (by first | omega | (simp; done) | (simp; omega)) _ | refine Below.then ?_ hb9 (by first | omega | (simp; done) | (simp; omega)) | refine Below.then ?_ hb8 (by first | omega | (simp; done) | (simp; omega)) | refine Below.then ?_ hb7 (by first | omega | (simp; done) | (simp; omega)) | refine Below.then ?_ hb6 (by first | omega | (simp; done) | (simp; omega)) | refine Below.then ?_ hb5 (by first | omega | (simp; done) | (simp; omega)) | refine Below.then ?_ hb4 (by first | omega | (simp; done) | (simp; omega)) | refine Below.then ?_ hb3 (by first | omega | (simp; done) | (simp; omega)) | refine Below.then ?_ hb2 (by first | omega | (simp; done) | (simp; omega)) | refine Below.then ?_ hb1 (by first | omega | (simp; done) | (simp; omega))))) (by first | omega | (simp; done) | (simp; omega))
          have l2 : w.heap.size < w2.heap.size := by first | omega | (simp; done) | (simp; omega)
          go_wp2_with fail
          have hS3 : SlOf w2 a (strV ss) := (HS.out.below (show Below w.heap.size w w1 from by (repeat (first | exact Below.refl _ _ | (with_reducible assumption) | refine Below.drew ?_ | refine Below.drewN' ?_ _ | refine Below.alloc ?_ (by first | omega | (simp; done) | (simp; omega)) _ | refine Below.setCell ?_ (by first | omega | (simp; done) | (simp; omega)) _ | refine Below.then ?_ hb9 (by first | omega | (simp; done) | (simp; omega)) | refine Below.then ?_ hb8 (by first | omega | (simp; done) | (simp; omega)) | refine Below.then ?_ hb7 (by first | omega | (simp; done) | (simp; omega)) | refine Below.then ?_ hb6 (by first | omega | (simp; done) | (simp; omega)) | refine Below.then ?_ hb5 (by first | omega | (simp; done) | (simp; omega)) | refine Below.then ?_ hb4 (by first | omega | (simp; done) | (simp; omega)) | refine Below.then ?_ hb3 (by first | omega | (simp; done) | (simp; omega)) | refine Below.then ?_ hb2 (by first | omega | (simp; done) | (simp; omega)) | refine Below.then ?_ hb1 (by first | omega | (simp; done) | (simp; omega)))))).below hb2
          refine (HI.out _ (hS3.alloc _)).mono ?_; rintro e3 w3 ⟨rfl, hb3⟩; have hz3 := hb3.size; (try simp at hz3)
          go_wp2
          go_ret
          exact ⟨rfl, by (repeat (first | exact Below.refl _ _ | (with_reducible assumption) | refine Below.drew ?_ | refine Below.drewN' ?_ _ | refine Below.alloc ?_ (by first | omega | (simp; done) | (simp; omega)) _ | refine Below.setCell ?_ (by first | omega | (simp; done) | (simp; omega)) _ | refine Below.then ?_ hb9 (by first | omega | (simp; done) | (simp; omega)) | refine Below.then ?_ hb8 (by first | omega | (simp; done) | (simp; omega)) | refine Below.then ?_ hb7 (by first | omega | (simp; done) | (simp; omega)) | refine Below.then ?_ hb6 (by first | omega | (simp; done) | (simp; omega)) | refine Below.then ?_ hb5 (by first | omega | (simp; done) | (simp; omega)) | refine Below.then ?_ hb4 (by first | omega | (simp; done) | (simp; omega)) | refine Below.then ?_ hb3 (by first | omega | (simp; done) | (simp; omega)) | refine Below.then ?_ hb2 (by first | omega | (simp; done) | (simp; omega)) | refine Below.then ?_ hb1 (by first | omega | (simp; done) | (simp; omega))))⟩
      · have gk : (k == 2) = false := beq_eq_false_iff_ne.2 hk
        rw [show (decide (x = 0) || (decide (k = 2) && !s && ib)) = false by simp [hx, hk]]
        go_enter Try.func96, Try.ntmps96
        go_wp2_with fail
        refine (HC.out _ (HS.out.alloc _)).mono ?_; rintro e1 w1 ⟨rfl, hb1⟩; obtain ⟨hc1, hf1⟩ := bcell hb1; have hz1 := hb1.size; (try simp at hz1)
        go_wp2_with fail
        refine (HO.out _).mono ?_; rintro e2 w2 ⟨rfl, hb2⟩; obtain ⟨hc2, hf2⟩ := bcell hb2; have hz2 := hb2.size; (try simp at hz2)
        go_wp2
        go_ret
        exact ⟨rfl, by (repeat (first | exact Below.refl _ _ | (with_reducible assumption) | refine Below.drew ?_ | refine Below.drewN' ?_ _ | refine Below.alloc ?_ (by first | omega | (simp; done) | (simp; omega)) _ | refine Below.setCell ?_ (by first | omega | (simp; done) | (simp; omega)) _ | refine Below.then ?_ hb9 (by first | omega | (simp; done) | (simp; omega)) | refine Below.then ?_ hb8 (by first | omega | (simp; done) | (simp; omega)) | refine Below.then ?_ hb7 (by first | omega | (simp; done) | (simp; omega)) | refine Below.then ?_ hb6 (by first | omega | (simp; done) | (simp; omega)) | refine Below.then ?_ hb5 (by first | omega | (simp; done) | (simp; omega)) | refine Below.then ?_ hb4 (by first | omega | (simp; done) | (simp; omega)) | refine Below.then ?_ hb3 (by first | omega | (simp; done) | (simp; omega)) | refine Below.then ?_ hb2 (by first | omega | (simp; done) | (simp; omega)) | refine Below.then ?_ hb1 (by first | omega | (simp; done) | (simp; omega))))⟩

/-- may a buffer be -/
def baseP (t sp s : Int) : Int := 3 + 2 * t + s * sp
def lentB (t sp : Int) (ss : List ByteArray) (ls la ll : Int) : Bool :=
  planB t sp ss && (decide (0 ≤ ls ∧ ls < 2) && (decide (ll = 0 ∧ la = 0) || decide (0 < ll ∧ ll ≤ sp ∧ baseP t sp ls ≤ la ∧ la - baseP t sp ls ≤ sp - ll)))
theorem base_range {t sp s : Int} (b1 : 1 ≤ t) (b2 : t ≤ 8) (b3 : 32 ≤ sp) (b4 : sp ≤ 4096) (h : 0 ≤ s ∧ s < 2) : 0 ≤ baseP t sp s ∧ baseP t sp s ≤ 5000 := by
  unfold baseP
  have : s = 0 ∨ s = 1 := by omega
  rcases this with rfl | rfl <;> omega

set_option maxRecDepth 100000 in
theorem bufWithin_calls (t sp : Int) (a : Option Addr) (c : Nat) (ss : List ByteArray) (ls la ll x n : Int) (hn : ss.length ≤ maxLen) (hp : planB t sp ss = true) (hs : 0 ≤ ls ∧ ls < 2) (hw1 : (Lit.int .i64 x).wf = true) (hnn : 0 < n) (w : World) (h : SlOf w a (strV ss)) :
    Calls Try.prog 129 #[.agg #[.int .i64 ls, .int .i64 la, .int .i64 ll, .int .i64 t, .int .i64 sp, .slice a ss.length c], .int .i64 x, .int .i64 n] w fun e w' => e = .returned (.bool (decide (n ≤ sp ∧ baseP t sp ls ≤ x ∧ x - baseP t sp ls ≤ sp - n))) ∧ Below w.heap.size w w' := by
  have HS := Lib.hid h
  have hb := fun w h => layBase_calls t sp a c ss ls hn w h
  obtain ⟨b1, b2, b3, b4, _⟩ := plan_ok hp
  have hr := base_range b1 b2 b3 b4 hs
  have e1 : placeE t sp ss ls 2 = 0 := by unfold placeE; rw [if_pos hp, if_neg (by omega)]
  have e2 : placeV t sp ss ls 2 (3 + 2 * t + ls * sp) = baseP t sp ls := by unfold placeV; rw [if_pos e1]; rfl
  rw [e1, e2] at hb
  have HB := Lib.hid hb
  have hx : -9223372036854775808 ≤ x ∧ x ≤ 9223372036854775807 := wf64 hw1
  generalize baseP t sp ls = b at HB hr
  clear hb e1 e2 hp h hw1
  have g0 : decide (n ≥ 0) = true := by rw [decide_eq_true_eq]; omega
  by_cases h1 : n ≤ sp
  · by_cases h2 : b ≤ x
    · have hwx : IntKind.i64.wrap (x - b) = x - b := IntWalk.i64_in _ (by omega)
      have hws : IntKind.i64.wrap (sp - n) = sp - n := IntWalk.i64_in _ (by omega)
      rw [show decide (n ≤ sp ∧ b ≤ x ∧ x - b ≤ sp - n) = decide (x - b ≤ sp - n) by simp [h1, h2]]
      have g2 : decide (x ≥ b) = true := by rw [decide_eq_true_eq]; omega
      go_enter Try.func129, Try.ntmps129
      go_wp2_with fail
      refine (HB.out _ (HS.out.alloc _)).mono ?_; rintro e1 w1 ⟨rfl, hb1⟩; obtain ⟨hc1, hf1⟩ := bcell hb1; have hz1 := hb1.size; (try simp at hz1)
      have q4 := hc1 w.heap.size 4 (by first | omega | (simp; done) | (simp; omega)); simp [go_sem] at q4
      have l1 : w.heap.size < w1.heap.size := by first | omega | (simp; done) | (simp; omega)
      go_wp2
      go_ret
      exact ⟨rfl, by (repeat (first | exact Below.refl _ _ | (with_reducible assumption) | refine Below.drew ?_ | refine Below.drewN' ?_ _ | refine Below.alloc ?_ (by first | omega | (simp; done) | (simp; omega)) _ | refine Below.setCell ?_ (by first | omega | (simp; done) | (simp; omega)) _ | refine Below.then ?_ hb9 (by first | omega | (simp; done) | (simp; omega)) | refine Below.then ?_ hb8 (by first | omega | (simp; done) | (simp; omega)) | refine Below.then ?_ hb7 (by first | omega | (simp; done) | (simp; omega)) | refine Below.then ?_ hb6 (by first | omega | (simp; done) | (simp; omega)) | refine Below.then ?_ hb5 (by first | omega | (simp; done) | (simp; omega)) | refine Below.then ?_ hb4 (by first | omega | (simp; done) | (simp; omega)) | refine Below.then ?_ hb3 (by first | omega | (simp; done) | (simp; omega)) | refine Below.then ?_ hb2 (by first | omega | (simp; done) | (simp; omega)) | refine Below.then ?_ hb1 (by first | omega | (simp; done) | (simp; omega))))⟩
    · rw [show decide (n ≤ sp ∧ b ≤ x ∧ x - b ≤ sp - n) = false by simp [h2]]
      have g2 : decide (x ≥ b) = false := by rw [decide_eq_false_iff_not]; omega
      go_enter Try.func129, Try.ntmps129
      go_wp2_with fail
      refine (HB.out _ (HS.out.alloc _)).mono ?_; rintro e1 w1 ⟨rfl, hb1⟩; obtain ⟨hc1, hf1⟩ := bcell hb1; have hz1 := hb1.size; (try simp at hz1)
      have q4 := hc1 w.heap.size 4 (by first | omega | (simp; done) | (simp; omega)); simp [go_sem] at q4
      have l1 : w.heap.size < w1.heap.size := by first | omega | (simp; done) | (simp; omega)
      go_wp2
      go_ret
      exact ⟨rfl, by (repeat (first | exact Below.refl _ _ | (with_reducible assumption) | refine Below.drew ?_ | refine Below.drewN' ?_ _ | refine Below.alloc ?_ (by first | omega | (simp; done) | (simp; omega)) _ | refine Below.setCell ?_ (by first | omega | (simp; done) | (simp; omega)) _ | refine Below.then ?_ hb9 (by first | omega | (simp; done) | (simp; omega)) | refine Below.then ?_ hb8 (by first | omega | (simp; done) | (simp; omega)) | refine Below.then ?_ hb7 (by first | omega | (simp; done) | (simp; omega)) | refine Below.then ?_ hb6 (by first | omega | (simp; done) | (simp; omega)) | refine Below.then ?_ hb5 (by first | omega | (simp; done) | (simp; omega)) | refine Below.then ?_ hb4 (by first | omega | (simp; done) | (simp; omega)) | refine Below.then ?_ hb3 (by first | omega | (simp; done) | (simp; omega)) | refine Below.then ?_ hb2 (by first | omega | (simp; done) | (simp; omega)) | refine Below.then ?_ hb1 (by first | omega | (simp; done) | (simp; omega))))⟩
  · rw [show decide (n ≤ sp ∧ b ≤ x ∧ x - b ≤ sp - n) = false by simp [h1]]
    go_enter Try.func129, Try.ntmps129
    go_wp2_with fail
    refine (HB.out _ (HS.out.alloc _)).mono ?_; rintro e1 w1 ⟨rfl, hb1⟩; obtain ⟨hc1, hf1⟩ := bcell hb1; have hz1 := hb1.size; (try simp at hz1)
    have q4 := hc1 w.heap.size 4 (by first | omega | (simp; done) | (simp; omega)); simp [go_sem] at q4
    have l1 : w.heap.size < w1.heap.size := by first | omega | (simp; done) | (simp; omega)
    go_wp2
    go_ret
    exact ⟨rfl, by (repeat (first | exact Below.refl _ _ | (with_reducible assumption) | refine Below.drew ?_ | refine Below.drewN' ?_ _ | refine Below.alloc ?_ (by first | omega | (simp; done) | (simp; omega)) _ | refine Below.setCell ?_ (by first | omega | (simp; done) | (simp; omega)) _ | refine Below.then ?_ hb9 (by first | omega | (simp; done) | (simp; omega)) | refine Below.then ?_ hb8 (by first | omega | (simp; done) | (simp; omega)) | refine Below.then ?_ hb7 (by first | omega | (simp; done) | (simp; omega)) | refine Below.then ?_ hb6 (by first | omega | (simp; done) | (simp; omega)) | refine Below.then ?_ hb5 (by first | omega | (simp; done) | (simp; omega)) | refine Below.then ?_ hb4 (by first | omega | (simp; done) | (simp; omega)) | refine Below.then ?_ hb3 (by first | omega | (simp; done) | (simp; omega)) | refine Below.then ?_ hb2 (by first | omega | (simp; done) | (simp; omega)) | refine Below.then ?_ hb1 (by first | omega | (simp; done) | (simp; omega))))⟩

set_option maxRecDepth 100000 in
theorem bufRight_calls (t sp : Int) (a : Option Addr) (c : Nat) (ss : List ByteArray) (ls la ll : Int) (hn : ss.length ≤ maxLen) (hw1 : (Lit.int .i64 la).wf = true) (w : World) (h : SlOf w a (strV ss)) :
    Calls Try.prog 114 #[.agg #[.int .i64 ls, .int .i64 la, .int .i64 ll, .int .i64 t, .int .i64 sp, .slice a ss.length c]] w fun e w' => e = .returned (.bool (lentB t sp ss ls la ll)) ∧ Below w.heap.size w w' := by
  have HS := Lib.hid h
  have hb := fun w h => layBase_calls t sp a c ss ls hn w h
  by_cases hq : planB t sp ss = true ∧ 0 ≤ ls ∧ ls < 2
  · have e1 : placeE t sp ss ls 2 = 0 := by unfold placeE; rw [if_pos hq.1, if_neg (by omega)]
    have e3 : lentB t sp ss ls la ll = (decide (ll = 0 ∧ la = 0) || decide (0 < ll ∧ ll ≤ sp ∧ baseP t sp ls ≤ la ∧ la - baseP t sp ls ≤ sp - ll)) := by simp [lentB, hq.1, hq.2.1, hq.2.2]
    rw [e1] at hb
    have HB := Lib.hid hb
    have HW := fun (h : 0 < ll) => (fun W hs => bufWithin_calls t sp a c ss ls la ll la ll hn hq.1 hq.2 hw1 h W hs)
    rw [e3]
    clear e1 e3 hb hq h hw1
    by_cases h0 : ll < 0
    · rw [show (decide (ll = 0 ∧ la = 0) || decide (0 < ll ∧ ll ≤ sp ∧ baseP t sp ls ≤ la ∧ la - baseP t sp ls ≤ sp - ll)) = false by simp; omega]
      clear HW
      go_enter Try.func114, Try.ntmps114
      go_wp2_with fail
      refine (HB.out _ (HS.out.alloc _)).mono ?_; rintro e1 w1 ⟨rfl, hb1⟩; obtain ⟨hc1, hf1⟩ := bcell hb1; have hz1 := hb1.size; (try simp at hz1)
      have q2 := hc1 w.heap.size 2 (by first | omega | (simp; done) | (simp; omega)); simp [go_sem] at q2
      have l1 : w.heap.size < w1.heap.size := by first | omega | (simp; done) | (simp; omega)
      go_wp2
      go_ret
      exact ⟨rfl, by (repeat (first | exact Below.refl _ _ | (with_reducible assumption) | refine Below.drew ?_ | refine Below.drewN' ?_ _ | refine Below.alloc ?_ (by first | omega | (simp; done) | (simp; omega)) _ | refine Below.setCell ?_ (by first | omega | (simp; done) | (simp; omega)) _ | refine Below.then ?_ hb9 (by first | omega | (simp; done) | (simp; omega)) | refine Below.then ?_ hb8 (by first | omega | (simp; done) | (simp; omega)) | refine Below.then ?_ hb7 (by first | omega | (simp; done) | (simp; omega)) | refine Below.then ?_ hb6 (by first | omega | (simp; done) | (simp; omega)) | refine Below.then ?_ hb5 (by first | omega | (simp; done) | (simp; omega)) | refine Below.then ?_ hb4 (by first | omega | (simp; done) | (simp; omega)) | refine Below.then ?_ hb3 (by first | omega | (simp; done) | (simp; omega)) | refine Below.then ?_ hb2 (by first | omega | (simp; done) | (simp; omega)) | refine Below.then ?_ hb1 (by first | omega | (simp; done) | (simp; omega))))⟩
    · by_cases h1 : ll = 0
      · subst h1
        clear HW
        by_cases h2 : la = 0
        · subst h2
          rw [show (decide ((0 : Int) = 0 ∧ (0 : Int) = 0) || decide ((0 : Int) < 0 ∧ 0 ≤ sp ∧ baseP t sp ls ≤ 0 ∧ 0 - baseP t sp ls ≤ sp - 0)) = true by simp]
          go_enter Try.func114, Try.ntmps114
          go_wp2_with fail
          refine (HB.out _ (HS.out.alloc _)).mono ?_; rintro e1 w1 ⟨rfl, hb1⟩; obtain ⟨hc1, hf1⟩ := bcell hb1; have hz1 := hb1.size; (try simp at hz1)
          have q0 := hc1 w.heap.size 0 (by first | omega | (simp; done) | (simp; omega)); simp [go_sem] at q0
          have q1 := hc1 w.heap.size 1 (by first | omega | (simp; done) | (simp; omega)); simp [go_sem] at q1
          have q2 := hc1 w.heap.size 2 (by first | omega | (simp; done) | (simp; omega)); simp [go_sem] at q2
          have l1 : w.heap.size < w1.heap.size := by first | omega | (simp; done) | (simp; omega)
          go_wp2
          go_ret
          exact ⟨rfl, by (repeat (first | exact Below.refl _ _ | (with_reducible assumption) | refine Below.drew ?_ | refine Below.drewN' ?_ _ | refine Below.alloc ?_ (by first | omega | (simp; done) | (simp; omega)) _ | refine Below.setCell ?_ (by first | omega | (simp; done) | (simp; omega)) _ | refine Below.then ?_ hb9 (by first | omega | (simp; done) | (simp; omega)) | refine Below.then ?_ hb8 (by first | omega | (simp; done) | (simp; omega)) | refine Below.then ?_ hb7 (by first | omega | (simp; done) | (simp; omega)) | refine Below.then ?_ hb6 (by first | omega | (simp; done) | (simp; omega)) | refine Below.then ?_ hb5 (by first | omega | (simp; done) | (simp; omega)) | refine Below.then ?_ hb4 (by first | omega | (simp; done) | (simp; omega)) | refine Below.then ?_ hb3 (by first | omega | (simp; done) | (simp; omega)) | refine Below.then ?_ hb2 (by first | omega | (simp; done) | (simp; omega)) | refine Below.then ?_ hb1 (by first | omega | (simp; done) | (simp; omega))))⟩
        · rw [show (decide ((0 : Int) = 0 ∧ la = 0) || decide ((0 : Int) < 0 ∧ 0 ≤ sp ∧ baseP t sp ls ≤ la ∧ la - baseP t sp ls ≤ sp - 0)) = false by simp [h2]]
          go_enter Try.func114, Try.ntmps114
          go_wp2_with fail
          refine (HB.out _ (HS.out.alloc _)).mono ?_; rintro e1 w1 ⟨rfl, hb1⟩; obtain ⟨hc1, hf1⟩ := bcell hb1; have hz1 := hb1.size; (try simp at hz1)
          have q0 := hc1 w.heap.size 0 (by first | omega | (simp; done) | (simp; omega)); simp [go_sem] at q0
          have q1 := hc1 w.heap.size 1 (by first | omega | (simp; done) | (simp; omega)); simp [go_sem] at q1
          have q2 := hc1 w.heap.size 2 (by first | omega | (simp; done) | (simp; omega)); simp [go_sem] at q2
          have l1 : w.heap.size < w1.heap.size := by first | omega | (simp; done) | (simp; omega)
          go_wp2
          go_ret
          exact ⟨rfl, by (repeat (first | exact Below.refl _ _ | (with_reducible assumption) | refine Below.drew ?_ | refine Below.drewN' ?_ _ | refine Below.alloc ?_ (by first | omega | (simp; done) | (simp; omega)) _ | refine Below.setCell ?_ (by first | omega | (simp; done) | (simp; omega)) _ | refine Below.then ?_ hb9 (by first | omega | (simp; done) | (simp; omega)) | refine Below.then ?_ hb8 (by first | omega | (simp; done) | (simp; omega)) | refine Below.then ?_ hb7 (by first | omega | (simp; done) | (simp; omega)) | refine Below.then ?_ hb6 (by first | omega | (simp; done) | (simp; omega)) | refine Below.then ?_ hb5 (by first | omega | (simp; done) | (simp; omega)) | refine Below.then ?_ hb4 (by first | omega | (simp; done) | (simp; omega)) | refine Below.then ?_ hb3 (by first | omega | (simp; done) | (simp; omega)) | refine Below.then ?_ hb2 (by first | omega | (simp; done) | (simp; omega)) | refine Below.then ?_ hb1 (by first | omega | (simp; done) | (simp; omega))))⟩
      · have HW := Lib.hid (HW (by omega))
        rw [show (decide (ll = 0 ∧ la = 0) || decide (0 < ll ∧ ll ≤ sp ∧ baseP t sp ls ≤ la ∧ la - baseP t sp ls ≤ sp - ll)) = decide (ll ≤ sp ∧ baseP t sp ls ≤ la ∧ la - baseP t sp ls ≤ sp - ll) by
          rw [Bool.eq_iff_iff]; simp [h1]; intros; omega]
        generalize decide (ll ≤ sp ∧ baseP t sp ls ≤ la ∧ la - baseP t sp ls ≤ sp - ll) = r at HW
        have g1 : (ll == 0) = false := beq_eq_false_iff_ne.2 h1
        go_enter Try.func114, Try.ntmps114
        go_wp2_with fail
        refine (HB.out _ (HS.out.alloc _)).mono ?_; rintro e1 w1 ⟨rfl, hb1⟩; obtain ⟨hc1, hf1⟩ := bcell hb1; have hz1 := hb1.size; (try simp at hz1)
        have q0 := hc1 w.heap.size 0 (by first | omega | (simp; done) | (simp; omega)); simp [go_sem] at q0
        have q1 := hc1 w.heap.size 1 (by first | omega | (simp; done) | (simp; omega)); simp [go_sem] at q1
        have q2 := hc1 w.heap.size 2 (by first | omega | (simp; done) | (simp; omega)); simp [go_sem] at q2
        have q3 := hc1 w.heap.size 3 (by first | omega | (simp; done) | (simp; omega)); simp [go_sem] at q3
        have q4 := hc1 w.heap.size 4 (by first | omega | (simp; done) | (simp; omega)); simp [go_sem] at q4
        have q5 := hc1 w.heap.size 5 (by first | omega | (simp; done) | (simp; omega)); simp [go_sem] at q5
        have l1 : w.heap.size < w1.heap.size := by first | omega | (simp; done) | (simp; omega)
        go_wp2_with fail
        refine (HW.out _ ((HS.out.alloc _).below hb1)).mono ?_; rintro e2 w2 ⟨rfl, hb2⟩; have hz2 := hb2.size; (try simp at hz2)
        go_wp2
        go_ret
        exact ⟨rfl, by (repeat (first | exact Below.refl _ _ | (with_reducible assumption) | refine Below.drew ?_ | refine Below.drewN' ?_ _ | refine Below.alloc ?_ (by first | omega | (simp; done) | (simp; omega)) _ | refine Below.setCell ?_ (by first | omega | (simp; done) | (simp; omega)) _ | refine Below.then ?_ hb9 (by first | omega | (simp; done) | (simp; omega)) | refine Below.then ?_ hb8 (by first | omega | (simp; done) | (simp; omega)) | refine Below.then ?_ hb7 (by first | omega | (simp; done) | (simp; omega)) | refine Below.then ?_ hb6 (by first | omega | (simp; done) | (simp; omega)) | refine Below.then ?_ hb5 (by first | omega | (simp; done) | (simp; omega)) | refine Below.then ?_ hb4 (by first | omega | (simp; done) | (simp; omega)) | refine Below.then ?_ hb3 (by first | omega | (simp; done) | (simp; omega)) | refine Below.then ?_ hb2 (by first | omega | (simp; done) | (simp; omega)) | refine Below.then ?_ hb1 (by first | omega | (simp; done) | (simp; omega))))⟩
  · have e1 : placeE t sp ss ls 2 ≠ 0 := by
      unfold placeE
      by_cases hp : planB t sp ss = true
      · rw [if_pos hp, if_pos (by simp only [hp, true_and] at hq; omega)]; decide
      · rw [if_neg hp]; decide
    have e3 : lentB t sp ss ls la ll = false := by
      unfold lentB
      cases hp : planB t sp ss with
      | false => rfl
      | true =>
        simp only [hp, true_and] at hq
        rw [decide_eq_false (show ¬ (0 ≤ ls ∧ ls < 2) from hq)]
        rfl
    have g1 : (placeE t sp ss ls 2 != 0) = true := bne_iff_ne.2 e1
    generalize placeE t sp ss ls 2 = pe at hb g1
    have HB := Lib.hid hb
    rw [e3]
    clear e1 e3 hb hq h hw1
    go_enter Try.func114, Try.ntmps114
    go_wp2_with fail
    refine (HB.out _ (HS.out.alloc _)).mono ?_; rintro e1 w1 ⟨rfl, hb1⟩; obtain ⟨hc1, hf1⟩ := bcell hb1; have hz1 := hb1.size; (try simp at hz1)
    go_wp2
    go_ret
    exact ⟨rfl, by (repeat (first | exact Below.refl _ _ | (with_reducible assumption) | refine Below.drew ?_ | refine Below.drewN' ?_ _ | refine Below.alloc ?_ (by first | omega | (simp; done) | (simp; omega)) _ | refine Below.setCell ?_ (by first | omega | (simp; done) | (simp; omega)) _ | refine Below.then ?_ hb9 (by first | omega | (simp; done) | (simp; omega)) | refine Below.then ?_ hb8 (by first | omega | (simp; done) | (simp; omega)) | refine Below.then ?_ hb7 (by first | omega | (simp; done) | (simp; omega)) | refine Below.then ?_ hb6 (by first | omega | (simp; done) | (simp; omega)) | refine Below.then ?_ hb5 (by first | omega | (simp; done) | (simp; omega)) | refine Below.then ?_ hb4 (by first | omega | (simp; done) | (simp; omega)) | refine Below.then ?_ hb3 (by first | omega | (simp; done) | (simp; omega)) | refine Below.then ?_ hb2 (by first | omega | (simp; done) | (simp; omega)) | refine Below.then ?_ hb1 (by first | omega | (simp; done) | (simp; omega))))⟩

theorem bufCheck_calls (t sp : Int) (a : Option Addr) (c : Nat) (ss : List ByteArray) (ls la ll : Int) (hn : ss.length ≤ maxLen) (hw1 : (Lit.int .i64 la).wf = true) (w : World) (h : SlOf w a (strV ss)) :
    Calls Try.prog 94 #[.agg #[.int .i64 t, .int .i64 sp, .slice a ss.length c], .agg #[.int .i64 ls, .int .i64 la, .int .i64 ll]] w fun e w' => e = .returned (.int .i64 (if lentB t sp ss ls la ll = true then 0 else 2)) ∧ Below w.heap.size w w' := by
  have HS := Lib.hid h
  have hb := fun w h => bufRight_calls t sp a c ss ls la ll hn hw1 w h
  generalize lentB t sp ss ls la ll = r at hb
  have HB := Lib.hid hb
  clear hb h
  cases r with
  | true =>
    rw [if_pos rfl]
    go_enter Try.func94, Try.ntmps94
    go_wp2_with fail
    refine (HB.out _ ((HS.out.alloc _).alloc _)).mono ?_; rintro e1 w1 ⟨rfl, hb1⟩; have hz1 := hb1.size; (try simp at hz1)
    go_wp2
    go_ret
    exact ⟨rfl, by (repeat (first | exact Below.refl _ _ | (with_reducible assumption) | refine Below.drew ?_ | refine Below.drewN' ?_ _ | refine Below.alloc ?_ (by first | omega | (simp; done) | (simp; omega)) _ | refine Below.setCell ?_ (by first | omega | (simp; done) | (simp; omega)) _ | refine Below.then ?_ hb9 (by first | omega | (simp; done) | (simp; omega)) | refine Below.then ?_ hb8 (by first | omega | (simp; done) | (simp; omega)) | refine Below.then ?_ hb7 (by first | omega | (simp; done) | (simp; omega)) | refine Below.then ?_ hb6 (by first | omega | (simp; done) | (simp; omega)) | refine Below.then ?_ hb5 (by first | omega | (simp; done) | (simp; omega)) | refine Below.then ?_ hb4 (by first | omega | (simp; done) | (simp; omega)) | refine Below.then ?_ hb3 (by first | omega | (simp; done) | (simp; omega)) | refine Below.then ?_ hb2 (by first | omega | (simp; done) | (simp; omega)) | refine Below.then ?_ hb1 (by first | omega | (simp; done) | (simp; omega))))⟩
  | false =>
    rw [if_neg (by decide)]
    go_enter Try.func94, Try.ntmps94
    go_wp2_with fail
    refine (HB.out _ ((HS.out.alloc _).alloc _)).mono ?_; rintro e1 w1 ⟨rfl, hb1⟩; have hz1 := hb1.size; (try simp at hz1)
    go_wp2
    go_ret
    exact ⟨rfl, by (repeat (first | exact Below.refl _ _ | (with_reducible assumption) | refine Below.drew ?_ | refine Below.drewN' ?_ _ | refine Below.alloc ?_ (by first | omega | (simp; done) | (simp; omega)) _ | refine Below.setCell ?_ (by first | omega | (simp; done) | (simp; omega)) _ | refine Below.then ?_ hb9 (by first | omega | (simp; done) | (simp; omega)) | refine Below.then ?_ hb8 (by first | omega | (simp; done) | (simp; omega)) | refine Below.then ?_ hb7 (by first | omega | (simp; done) | (simp; omega)) | refine Below.then ?_ hb6 (by first | omega | (simp; done) | (simp; omega)) | refine Below.then ?_ hb5 (by first | omega | (simp; done) | (simp; omega)) | refine Below.then ?_ hb4 (by first | omega | (simp; done) | (simp; omega)) | refine Below.then ?_ hb3 (by first | omega | (simp; done) | (simp; omega)) | refine Below.then ?_ hb2 (by first | omega | (simp; done) | (simp; omega)) | refine Below.then ?_ hb1 (by first | omega | (simp; done) | (simp; omega))))⟩
end Go.Proofs.Ytafenndokmccoaa
