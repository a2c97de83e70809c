/- The reference of layer 'object': which arenas may be; what stands at a word; where fields stand. -/
import Derived.Test.YtiodkcecpnomcaaObjE
import Derived.Test.YtiodkcecpnomcaaLayRef
import Derived.Test.YtiodkcecpnomcaaEq
namespace Go.Proofs.Ytiodkcecpnomcaa
open Go.RowKit
set_option linter.unusedVariables false
set_option linter.unusedSimpArgs false

theorem r7Base_calls (t sp : Int) (a : Option Addr) (c m : Nat) (n : Int) (hn : n = 0 ∨ n = 1) (b1 : 1 ≤ t) (b2 : t ≤ 8) (b3 : 32 ≤ sp) (b4 : sp ≤ 4096) (w : World) :
    Calls Try.prog 17 #[.agg #[.int .i64 t, .int .i64 sp, .slice a m c], .int .i64 n] w fun e w' => e = .returned (.int .i64 (3 + 2 * t + n * sp)) ∧ Below w.heap.size w w' := by
  rcases hn with rfl | rfl
  · go_enter Try.func17, Try.ntmps17
    go_wp2
    go_ret
    exact ⟨by simp, by (repeat (first | exact Below.refl _ _ | (with_reducible assumption) | refine Below.drew ?_ | refine Below.drewN' ?_ _ | refine Below.alloc ?_ (by first | omega | (simp; done) | (simp; omega)) _ | refine Below.setCell ?_ (by first | omega | (simp; done) | (simp; omega)) _ | refine Below.then ?_ hb9 (by first | omega | (simp; done) | (simp; omega)) | refine Below.then ?_ hb8 (by first | omega | (simp; done) | (simp; omega)) | refine Below.then ?_ hb7 (by first | omega | (simp; done) | (simp; omega)) | refine Below.then ?_ hb6 (by first | omega | (simp; done) | (simp; omega)) | refine Below.then ?_ hb5 (by first | omega | (simp; done) | (simp; omega)) | refine Below.then ?_ hb4 (by first | omega | (simp; done) | (simp; omega)) | refine Below.then ?_ hb3 (by first | omega | (simp; done) | (simp; omega)) | refine Below.then ?_ hb2 (by first | omega | (simp; done) | (simp; omega)) | refine Below.then ?_ hb1 (by first | omega | (simp; done) | (simp; omega))))⟩
  · go_enter Try.func17, Try.ntmps17
    go_wp2
    go_ret
    exact ⟨by simp, by (repeat (first | exact Below.refl _ _ | (with_reducible assumption) | refine Below.drew ?_ | refine Below.drewN' ?_ _ | refine Below.alloc ?_ (by first | omega | (simp; done) | (simp; omega)) _ | refine Below.setCell ?_ (by first | omega | (simp; done) | (simp; omega)) _ | refine Below.then ?_ hb9 (by first | omega | (simp; done) | (simp; omega)) | refine Below.then ?_ hb8 (by first | omega | (simp; done) | (simp; omega)) | refine Below.then ?_ hb7 (by first | omega | (simp; done) | (simp; omega)) | refine Below.then ?_ hb6 (by first | omega | (simp; done) | (simp; omega)) | refine Below.then ?_ hb5 (by first | omega | (simp; done) | (simp; omega)) | refine Below.then ?_ hb4 (by first | omega | (simp; done) | (simp; omega)) | refine Below.then ?_ hb3 (by first | omega | (simp; done) | (simp; omega)) | refine Below.then ?_ hb2 (by first | omega | (simp; done) | (simp; omega)) | refine Below.then ?_ hb1 (by first | omega | (simp; done) | (simp; omega))))⟩

set_option maxHeartbeats 800000 in
theorem r7Right_calls (la : Option Addr) (lc n : Nat) (t sp : Int) (a : Option Addr) (c : Nat) (ss : List ByteArray) (hn : Fit ss) (w : World) (h : SlOf w a (strV ss)) :
    Calls Try.prog 37 #[.slice la n lc, .agg #[.int .i64 t, .int .i64 sp, .slice a ss.length c]] w fun e w' => e = .returned (.bool (rightP t sp ss n)) ∧ Below w.heap.size w w' := by
  have hr := fun W h => lyRight_calls t sp a c ss hn W h
  have HS := Lib.hid h
  clear h
  cases hp : planB t sp ss with
  | false =>
    have e1 : rightP t sp ss n = false := by unfold rightP; rw [hp]; rfl
    rw [e1]
    rw [hp] at hr
    have HR := Lib.hid hr
    clear hr hp e1
    go_enter Try.func37, Try.ntmps37
    go_wp2_with fail
    refine (HR.out _ (HS.out.alloc _)).mono ?_; rintro e1 w1 ⟨rfl, hb1⟩; have hz1 := hb1.size; (try simp at hz1)
    go_wp2
    go_ret
    exact ⟨rfl, by (repeat (first | exact Below.refl _ _ | (with_reducible assumption) | refine Below.drew ?_ | refine Below.drewN' ?_ _ | refine Below.alloc ?_ (by first | omega | (simp; done) | (simp; omega)) _ | refine Below.setCell ?_ (by first | omega | (simp; done) | (simp; omega)) _ | refine Below.then ?_ hb9 (by first | omega | (simp; done) | (simp; omega)) | refine Below.then ?_ hb8 (by first | omega | (simp; done) | (simp; omega)) | refine Below.then ?_ hb7 (by first | omega | (simp; done) | (simp; omega)) | refine Below.then ?_ hb6 (by first | omega | (simp; done) | (simp; omega)) | refine Below.then ?_ hb5 (by first | omega | (simp; done) | (simp; omega)) | refine Below.then ?_ hb4 (by first | omega | (simp; done) | (simp; omega)) | refine Below.then ?_ hb3 (by first | omega | (simp; done) | (simp; omega)) | refine Below.then ?_ hb2 (by first | omega | (simp; done) | (simp; omega)) | refine Below.then ?_ hb1 (by first | omega | (simp; done) | (simp; omega))))⟩
  | true =>
    obtain ⟨b1, b2, b3, b4, _⟩ := plan_ok hp
    have e1 : rightP t sp ss n = ((n : Int) == 3 + 2 * t + 2 * sp) := by
      unfold rightP
      rw [hp, Bool.true_and]
      by_cases e : 3 + 2 * t + 2 * sp = (n : Int)
      · rw [decide_eq_true e, beq_iff_eq.2 e.symm]
      · rw [decide_eq_false e, beq_eq_false_iff_ne.2 (fun h => e h.symm)]
    rw [e1]
    rw [hp] at hr
    have HR := Lib.hid hr
    clear hr hp e1
    go_enter Try.func37, Try.ntmps37
    go_wp2_with fail
    refine (HR.out _ (HS.out.alloc _)).mono ?_; rintro e1 w1 ⟨rfl, hb1⟩; obtain ⟨hc1, hf1⟩ := bcell hb1; have hz1 := hb1.size; (try simp at hz1)
    have q0 := hc1 w.heap.size 0 (by first | omega | (simp; done) | (simp; omega)); simp [go_sem] at q0
    have q1 := hc1 w.heap.size 1 (by first | omega | (simp; done) | (simp; omega)); simp [go_sem] at q1
    have q2 := hc1 w.heap.size 2 (by first | omega | (simp; done) | (simp; omega)); simp [go_sem] at q2
    go_wp2_with (go_at_call 26; go_in)
    go_ret
    exact ⟨rfl, by (repeat (first | exact Below.refl _ _ | (with_reducible assumption) | refine Below.drew ?_ | refine Below.drewN' ?_ _ | refine Below.alloc ?_ (by first | omega | (simp; done) | (simp; omega)) _ | refine Below.setCell ?_ (by first | omega | (simp; done) | (simp; omega)) _ | refine Below.then ?_ hb9 (by first | omega | (simp; done) | (simp; omega)) | refine Below.then ?_ hb8 (by first | omega | (simp; done) | (simp; omega)) | refine Below.then ?_ hb7 (by first | omega | (simp; done) | (simp; omega)) | refine Below.then ?_ hb6 (by first | omega | (simp; done) | (simp; omega)) | refine Below.then ?_ hb5 (by first | omega | (simp; done) | (simp; omega)) | refine Below.then ?_ hb4 (by first | omega | (simp; done) | (simp; omega)) | refine Below.then ?_ hb3 (by first | omega | (simp; done) | (simp; omega)) | refine Below.then ?_ hb2 (by first | omega | (simp; done) | (simp; omega)) | refine Below.then ?_ hb1 (by first | omega | (simp; done) | (simp; omega))))⟩

set_option maxRecDepth 1000000 in
set_option maxHeartbeats 3200000 in
theorem r7Size_calls (la : Option Addr) (lc : Nat) (l : List Int) (hr : ∀ x ∈ l, 0 ≤ x ∧ x < 18446744073709551616) (hl : l.length ≤ 16384) (t sp : Int) (a : Option Addr) (c : Nat) (ss : List ByteArray) (i : Nat) (hn : Fit ss) (hp : planB t sp ss = true) (h0 : 3 + 2 * t ≤ i) (h1 : (i : Int) < szP t sp) (hi : i < l.length) (w : World) (hw : WdsOf w la l) (h : SlOf w a (strV ss)) :
    Calls Try.prog 34 #[.slice la l.length lc, .agg #[.int .i64 t, .int .i64 sp, .slice a ss.length c], .int .i64 (i : Int)] w fun e w' => e = .returned (.int .i64 (sizeO t sp ss l[i] i)) ∧ Below w.heap.size w w' := by
  obtain ⟨b1, b2, b3, b4, _⟩ := plan_ok hp
  have hx := hr l[i] (List.getElem_mem hi)
  obtain ⟨r1, r2⟩ := inV_range (t := t) (at_ := (i : Int)) b3
  obtain ⟨bb, o, rfl, hbb, hcx⟩ := u64_at hw i hi
  have hZ := fun W h => refHSize_calls l[i] hx.1 hx.2 a c ss hn W h
  have hsz : sizeO t sp ss l[i] i = if hSizeE l[i] ss = 0 ∧ hSizeN l[i] ss ≤ sp - inV t sp i then hSizeN l[i] ss else 0 := rfl
  rw [hsz]
  have hNr : 0 ≤ hSizeN l[i] ss ∧ hSizeN l[i] ss ≤ 10 := by
    unfold hSizeN
    split
    · unfold sizeN
      split
      · rename_i hz
        have := shape_small hz
        omega
      · omega
    · omega
  have hbd : (if hOk l[i] = true then sizeN ss (hShape l[i]) else 0) = hSizeN l[i] ss := rfl
  clear hbd
  generalize hSizeE l[i] ss = ee at hZ
  generalize hSizeN l[i] ss = nn at hZ hNr
  have HZ := Lib.hid hZ
  have HB := Lib.hid (fun W => r7Base_calls t sp a c ss.length 0 (.inl rfl) b1 b2 b3 b4 W)
  have HS := Lib.hid h
  have hli : (i : Int) < (l.length : Int) := by omega
  have hl0 : (0 : Int) ≤ (i : Int) := by omega
  clear hZ h hsz hp hw hr
  unfold szP at h1
  unfold inV at r1 r2 ⊢
  go_enter Try.func34, Try.ntmps34
  go_wp2_with fail
  have keepS := Lib.hid (show ∀ A B' : World, (A.cell? ⟨bb, o + i, none⟩ = some (.int .u64 l[i]) ∧ A.cell? ⟨w.heap.size, 0, none⟩ = some (.int .i64 t) ∧ A.cell? ⟨w.heap.size, 1, none⟩ = some (.int .i64 sp) ∧ A.cell? ⟨w.heap.size, 2, none⟩ = some (.slice a ss.length c) ∧ w.heap.size + 1 ≤ A.heap.size ∧ Below w.heap.size w A) → Below A.heap.size A B' → (B'.cell? ⟨bb, o + i, none⟩ = some (.int .u64 l[i]) ∧ B'.cell? ⟨w.heap.size, 0, none⟩ = some (.int .i64 t) ∧ B'.cell? ⟨w.heap.size, 1, none⟩ = some (.int .i64 sp) ∧ B'.cell? ⟨w.heap.size, 2, none⟩ = some (.slice a ss.length c) ∧ w.heap.size + 1 ≤ B'.heap.size ∧ Below w.heap.size w B') from fun A B' hc hb => ⟨hold_cell hc.1 hb (by have := hc.2.2.2.2.1; show bb < _; omega), hold_cell hc.2.1 hb (by have := hc.2.2.2.2.1; show w.heap.size < _; omega), hold_cell hc.2.2.1 hb (by have := hc.2.2.2.2.1; show w.heap.size < _; omega), hold_cell hc.2.2.2.1 hb (by have := hc.2.2.2.2.1; show w.heap.size < _; omega), Nat.le_trans hc.2.2.2.2.1 hb.size, Below.then hc.2.2.2.2.2 hb (by have := hc.2.2.2.2.1; omega)⟩)
  have hshS := Lib.hid (show ∀ A : World, (A.cell? ⟨bb, o + i, none⟩ = some (.int .u64 l[i]) ∧ A.cell? ⟨w.heap.size, 0, none⟩ = some (.int .i64 t) ∧ A.cell? ⟨w.heap.size, 1, none⟩ = some (.int .i64 sp) ∧ A.cell? ⟨w.heap.size, 2, none⟩ = some (.slice a ss.length c) ∧ w.heap.size + 1 ≤ A.heap.size ∧ Below w.heap.size w A) → SlOf A a (strV ss) from fun A hc => HS.out.below hc.2.2.2.2.2)
  go_region_held3 (fun w' => w'.cell? ⟨bb, o + i, none⟩ = some (.int .u64 l[i]) ∧ w'.cell? ⟨w.heap.size, 0, none⟩ = some (.int .i64 t) ∧ w'.cell? ⟨w.heap.size, 1, none⟩ = some (.int .i64 sp) ∧ w'.cell? ⟨w.heap.size, 2, none⟩ = some (.slice a ss.length c) ∧ w.heap.size + 1 ≤ w'.heap.size ∧ Below w.heap.size w w') (first | (refine ⟨by simpa [go_sem, hbb] using hcx, by simp [go_sem], by simp [go_sem], by simp [go_sem], by simp [go_sem], ?_⟩; (repeat (first | exact Below.refl _ _ | (with_reducible assumption) | refine Below.drew ?_ | refine Below.drewN' ?_ _ | refine Below.alloc ?_ (by first | omega | (simp; done) | (simp; omega)) _ | refine Below.setCell ?_ (by first | omega | (simp; done) | (simp; omega)) _ | refine Below.then ?_ hb9 (by first | omega | (simp; done) | (simp; omega)) | refine Below.then ?_ hb8 (by first | omega | (simp; done) | (simp; omega)) | refine Below.then ?_ hb7 (by first | omega | (simp; done) | (simp; omega)) | refine Below.then ?_ hb6 (by first | omega | (simp; done) | (simp; omega)) | refine Below.then ?_ hb5 (by first | omega | (simp; done) | (simp; omega)) | refine Below.then ?_ hb4 (by first | omega | (simp; done) | (simp; omega)) | refine Below.then ?_ hb3 (by first | omega | (simp; done) | (simp; omega)) | refine Below.then ?_ hb2 (by first | omega | (simp; done) | (simp; omega)) | refine Below.then ?_ hb1 (by first | omega | (simp; done) | (simp; omega))))) | exact keepS.out _ _ (by assumption) hb1 | (simp [*, go_sem]; done)) (first | (go_at_call 59; refine (HZ.out _ (hshS.out _ (by assumption))).mono ?_; rintro e1 w1 ⟨rfl, hb1⟩; have hz1 := hb1.size; (try simp at hz1)))
  have hS1 : w1.cell? ⟨bb, o + i, none⟩ = some (.int .u64 l[i]) ∧ w1.cell? ⟨w.heap.size, 0, none⟩ = some (.int .i64 t) ∧ w1.cell? ⟨w.heap.size, 1, none⟩ = some (.int .i64 sp) ∧ w1.cell? ⟨w.heap.size, 2, none⟩ = some (.slice a ss.length c) ∧ w.heap.size + 1 ≤ w1.heap.size ∧ Below w.heap.size w w1 := by assumption
  by_cases he : ee = 0
  · subst he
    have hsp0 : ¬ sp = 0 := by omega
    have hsp1 : (sp == 0) = false := beq_eq_false_iff_ne.2 hsp0
    have hws : IntKind.i64.wrap ((i : Int) - (3 + 2 * t)) = (i : Int) - (3 + 2 * t) := IntWalk.i64_in _ (by omega)
    have htm : ((i : Int) - (3 + 2 * t)).tmod sp = ((i : Int) - (3 + 2 * t)) % sp := Int.tmod_eq_emod_of_nonneg (by omega)
    have hwe : IntKind.i64.wrap (((i : Int) - (3 + 2 * t)) % sp) = ((i : Int) - (3 + 2 * t)) % sp := IntWalk.i64_in _ (by omega)
    have hwr : IntKind.i64.wrap (((i : Int) - (3 + 2 * t)) % sp + nn) = ((i : Int) - (3 + 2 * t)) % sp + nn := IntWalk.i64_in _ (by omega)
    go_wp2_with fail
    go_region_held3 (fun w' => w'.cell? ⟨bb, o + i, none⟩ = some (.int .u64 l[i]) ∧ w'.cell? ⟨w.heap.size, 0, none⟩ = some (.int .i64 t) ∧ w'.cell? ⟨w.heap.size, 1, none⟩ = some (.int .i64 sp) ∧ w'.cell? ⟨w.heap.size, 2, none⟩ = some (.slice a ss.length c) ∧ w.heap.size + 1 ≤ w'.heap.size ∧ Below w.heap.size w w') (first | exact keepS.out w1 _ hS1 (Below.refl _ _).drew | exact keepS.out _ _ (by assumption) hb4 | (simp [*, go_sem]; done)) (first | (go_at_call 17; refine (HB.out _).mono ?_; rintro e4 w4 ⟨rfl, hb4⟩; have hz4 := hb4.size; (try simp at hz4)))
    have hB4 : Below w.heap.size w w4 := by have hS4 : w4.cell? ⟨bb, o + i, none⟩ = some (.int .u64 l[i]) ∧ w4.cell? ⟨w.heap.size, 0, none⟩ = some (.int .i64 t) ∧ w4.cell? ⟨w.heap.size, 1, none⟩ = some (.int .i64 sp) ∧ w4.cell? ⟨w.heap.size, 2, none⟩ = some (.slice a ss.length c) ∧ w.heap.size + 1 ≤ w4.heap.size ∧ Below w.heap.size w w4 := by assumption
                                            exact hS4.2.2.2.2.2
    by_cases hcmp : sp < ((i : Int) - (3 + 2 * t)) % sp + nn
    · have hc2 : ¬ nn ≤ sp - ((i : Int) - (3 + 2 * t)) % sp := by omega
      go_wp2
      go_ret
      exact ⟨by first | rfl | simp [hc2], by (repeat (first | exact Below.refl _ _ | (with_reducible assumption) | refine Below.drew ?_ | refine Below.drewN' ?_ _ | refine Below.alloc ?_ (by first | omega | (simp; done) | (simp; omega)) _ | refine Below.setCell ?_ (by first | omega | (simp; done) | (simp; omega)) _ | refine Below.then ?_ hb9 (by first | omega | (simp; done) | (simp; omega)) | refine Below.then ?_ hb8 (by first | omega | (simp; done) | (simp; omega)) | refine Below.then ?_ hb7 (by first | omega | (simp; done) | (simp; omega)) | refine Below.then ?_ hb6 (by first | omega | (simp; done) | (simp; omega)) | refine Below.then ?_ hb5 (by first | omega | (simp; done) | (simp; omega)) | refine Below.then ?_ hb4 (by first | omega | (simp; done) | (simp; omega)) | refine Below.then ?_ hb3 (by first | omega | (simp; done) | (simp; omega)) | refine Below.then ?_ hb2 (by first | omega | (simp; done) | (simp; omega)) | refine Below.then ?_ hb1 (by first | omega | (simp; done) | (simp; omega))))⟩
    · have hc2 : nn ≤ sp - ((i : Int) - (3 + 2 * t)) % sp := by omega
      go_wp2
      go_ret
      exact ⟨by first | rfl | simp [hc2], by (repeat (first | exact Below.refl _ _ | (with_reducible assumption) | refine Below.drew ?_ | refine Below.drewN' ?_ _ | refine Below.alloc ?_ (by first | omega | (simp; done) | (simp; omega)) _ | refine Below.setCell ?_ (by first | omega | (simp; done) | (simp; omega)) _ | refine Below.then ?_ hb9 (by first | omega | (simp; done) | (simp; omega)) | refine Below.then ?_ hb8 (by first | omega | (simp; done) | (simp; omega)) | refine Below.then ?_ hb7 (by first | omega | (simp; done) | (simp; omega)) | refine Below.then ?_ hb6 (by first | omega | (simp; done) | (simp; omega)) | refine Below.then ?_ hb5 (by first | omega | (simp; done) | (simp; omega)) | refine Below.then ?_ hb4 (by first | omega | (simp; done) | (simp; omega)) | refine Below.then ?_ hb3 (by first | omega | (simp; done) | (simp; omega)) | refine Below.then ?_ hb2 (by first | omega | (simp; done) | (simp; omega)) | refine Below.then ?_ hb1 (by first | omega | (simp; done) | (simp; omega))))⟩
  · have g1 : (ee != 0) = true := bne_iff_ne.2 he
    obtain ⟨-, q0, q1, q2, q3, q4⟩ := hS1
    go_wp2_with fail
    go_quiet (fail)
    go_wp2
    go_ret
    exact ⟨by first | rfl | simp [he], by (repeat (first | exact Below.refl _ _ | (with_reducible assumption) | refine Below.drew ?_ | refine Below.drewN' ?_ _ | refine Below.alloc ?_ (by first | omega | (simp; done) | (simp; omega)) _ | refine Below.setCell ?_ (by first | omega | (simp; done) | (simp; omega)) _ | refine Below.then ?_ hb9 (by first | omega | (simp; done) | (simp; omega)) | refine Below.then ?_ hb8 (by first | omega | (simp; done) | (simp; omega)) | refine Below.then ?_ hb7 (by first | omega | (simp; done) | (simp; omega)) | refine Below.then ?_ hb6 (by first | omega | (simp; done) | (simp; omega)) | refine Below.then ?_ hb5 (by first | omega | (simp; done) | (simp; omega)) | refine Below.then ?_ hb4 (by first | omega | (simp; done) | (simp; omega)) | refine Below.then ?_ hb3 (by first | omega | (simp; done) | (simp; omega)) | refine Below.then ?_ hb2 (by first | omega | (simp; done) | (simp; omega)) | refine Below.then ?_ hb1 (by first | omega | (simp; done) | (simp; omega))))⟩
end Go.Proofs.Ytiodkcecpnomcaa
