/- The reference of layer 'object': Same; has an arena just these words. -/
import Derived.Test.YtiodkcecpnomcaaObjL2
namespace Go.Proofs.Ytiodkcecpnomcaa
open Go.RowKit
set_option linter.unusedVariables false
set_option linter.unusedSimpArgs false

set_option maxRecDepth 100000 in
set_option maxHeartbeats 3200000 in
theorem r7Same_calls (x1 s1 m1 k1 : Int) (a : Option Addr) (c : Nat) (l : List Int) (x2 s2 m2 k2 : Int) (a' : Option Addr) (c' : Nat) (l' : List Int) (hn : l.length ≤ maxLen) (hn' : l'.length ≤ maxLen) (w : World) (h : WdsOf w a l) (h' : WdsOf w a' l') :
    Calls Try.prog 22 #[objV x1 s1 m1 k1 a l.length c, objV x2 s2 m2 k2 a' l'.length c'] w fun e w' => e = .returned (.bool (decide (x1 = x2 ∧ (s1 = s2 ∧ m1 = m2) ∧ k1 = k2 ∧ l = l'))) ∧ Below w.heap.size w w' := by
  have HS := Lib.hid h
  have HS' := Lib.hid h'
  unfold maxLen at hn hn'
  clear h h'
  unfold objV
  by_cases e1 : x1 = x2
  case neg =>
    rw [show decide (x1 = x2 ∧ (s1 = s2 ∧ m1 = m2) ∧ k1 = k2 ∧ l = l') = false from decide_eq_false (fun h => e1 h.1)]
    go_enter Try.func22, Try.ntmps22
    go_wp2
    go_ret
    exact ⟨rfl, by (repeat (first | exact Below.refl _ _ | (with_reducible assumption) | refine Below.drew ?_ | refine Below.drewN' ?_ _ | refine Below.alloc ?_ (by first | omega | (simp; done) | (simp; omega)) _ | refine Below.setCell ?_ (by first | omega | (simp; done) | (simp; omega)) _ | refine Below.then ?_ hb9 (by first | omega | (simp; done) | (simp; omega)) | refine Below.then ?_ hb8 (by first | omega | (simp; done) | (simp; omega)) | refine Below.then ?_ hb7 (by first | omega | (simp; done) | (simp; omega)) | refine Below.then ?_ hb6 (by first | omega | (simp; done) | (simp; omega)) | refine Below.then ?_ hb5 (by first | omega | (simp; done) | (simp; omega)) | refine Below.then ?_ hb4 (by first | omega | (simp; done) | (simp; omega)) | refine Below.then ?_ hb3 (by first | omega | (simp; done) | (simp; omega)) | refine Below.then ?_ hb2 (by first | omega | (simp; done) | (simp; omega)) | refine Below.then ?_ hb1 (by first | omega | (simp; done) | (simp; omega))))⟩
  by_cases e2 : s1 = s2
  case neg =>
    rw [show decide (x1 = x2 ∧ (s1 = s2 ∧ m1 = m2) ∧ k1 = k2 ∧ l = l') = false from decide_eq_false (fun h => e2 h.2.1.1)]
    go_enter Try.func22, Try.ntmps22
    go_wp2
    go_ret
    exact ⟨rfl, by (repeat (first | exact Below.refl _ _ | (with_reducible assumption) | refine Below.drew ?_ | refine Below.drewN' ?_ _ | refine Below.alloc ?_ (by first | omega | (simp; done) | (simp; omega)) _ | refine Below.setCell ?_ (by first | omega | (simp; done) | (simp; omega)) _ | refine Below.then ?_ hb9 (by first | omega | (simp; done) | (simp; omega)) | refine Below.then ?_ hb8 (by first | omega | (simp; done) | (simp; omega)) | refine Below.then ?_ hb7 (by first | omega | (simp; done) | (simp; omega)) | refine Below.then ?_ hb6 (by first | omega | (simp; done) | (simp; omega)) | refine Below.then ?_ hb5 (by first | omega | (simp; done) | (simp; omega)) | refine Below.then ?_ hb4 (by first | omega | (simp; done) | (simp; omega)) | refine Below.then ?_ hb3 (by first | omega | (simp; done) | (simp; omega)) | refine Below.then ?_ hb2 (by first | omega | (simp; done) | (simp; omega)) | refine Below.then ?_ hb1 (by first | omega | (simp; done) | (simp; omega))))⟩
  by_cases e3 : m1 = m2
  case neg =>
    rw [show decide (x1 = x2 ∧ (s1 = s2 ∧ m1 = m2) ∧ k1 = k2 ∧ l = l') = false from decide_eq_false (fun h => e3 h.2.1.2)]
    go_enter Try.func22, Try.ntmps22
    go_wp2
    go_ret
    exact ⟨rfl, by (repeat (first | exact Below.refl _ _ | (with_reducible assumption) | refine Below.drew ?_ | refine Below.drewN' ?_ _ | refine Below.alloc ?_ (by first | omega | (simp; done) | (simp; omega)) _ | refine Below.setCell ?_ (by first | omega | (simp; done) | (simp; omega)) _ | refine Below.then ?_ hb9 (by first | omega | (simp; done) | (simp; omega)) | refine Below.then ?_ hb8 (by first | omega | (simp; done) | (simp; omega)) | refine Below.then ?_ hb7 (by first | omega | (simp; done) | (simp; omega)) | refine Below.then ?_ hb6 (by first | omega | (simp; done) | (simp; omega)) | refine Below.then ?_ hb5 (by first | omega | (simp; done) | (simp; omega)) | refine Below.then ?_ hb4 (by first | omega | (simp; done) | (simp; omega)) | refine Below.then ?_ hb3 (by first | omega | (simp; done) | (simp; omega)) | refine Below.then ?_ hb2 (by first | omega | (simp; done) | (simp; omega)) | refine Below.then ?_ hb1 (by first | omega | (simp; done) | (simp; omega))))⟩
  by_cases e4 : k1 = k2
  case neg =>
    rw [show decide (x1 = x2 ∧ (s1 = s2 ∧ m1 = m2) ∧ k1 = k2 ∧ l = l') = false from decide_eq_false (fun h => e4 h.2.2.1)]
    go_enter Try.func22, Try.ntmps22
    go_wp2
    go_ret
    exact ⟨rfl, by (repeat (first | exact Below.refl _ _ | (with_reducible assumption) | refine Below.drew ?_ | refine Below.drewN' ?_ _ | refine Below.alloc ?_ (by first | omega | (simp; done) | (simp; omega)) _ | refine Below.setCell ?_ (by first | omega | (simp; done) | (simp; omega)) _ | refine Below.then ?_ hb9 (by first | omega | (simp; done) | (simp; omega)) | refine Below.then ?_ hb8 (by first | omega | (simp; done) | (simp; omega)) | refine Below.then ?_ hb7 (by first | omega | (simp; done) | (simp; omega)) | refine Below.then ?_ hb6 (by first | omega | (simp; done) | (simp; omega)) | refine Below.then ?_ hb5 (by first | omega | (simp; done) | (simp; omega)) | refine Below.then ?_ hb4 (by first | omega | (simp; done) | (simp; omega)) | refine Below.then ?_ hb3 (by first | omega | (simp; done) | (simp; omega)) | refine Below.then ?_ hb2 (by first | omega | (simp; done) | (simp; omega)) | refine Below.then ?_ hb1 (by first | omega | (simp; done) | (simp; omega))))⟩
  subst e1 e2 e3 e4
  have hd : decide (x1 = x1 ∧ (s1 = s1 ∧ m1 = m1) ∧ k1 = k1 ∧ l = l') = decide (l = l') := by simp
  rw [hd]
  clear hd
  by_cases hl : l.length = l'.length
  case neg =>
    have hf : decide (l = l') = false := by rw [decide_eq_false_iff_not]; intro e; exact hl (by rw [e])
    have g1 : ((l.length : Int) != (l'.length : Int)) = true := by rw [bne_iff_ne]; omega
    rw [hf]
    clear hf
    go_enter Try.func22, Try.ntmps22
    go_wp2
    go_ret
    exact ⟨rfl, by (repeat (first | exact Below.refl _ _ | (with_reducible assumption) | refine Below.drew ?_ | refine Below.drewN' ?_ _ | refine Below.alloc ?_ (by first | omega | (simp; done) | (simp; omega)) _ | refine Below.setCell ?_ (by first | omega | (simp; done) | (simp; omega)) _ | refine Below.then ?_ hb9 (by first | omega | (simp; done) | (simp; omega)) | refine Below.then ?_ hb8 (by first | omega | (simp; done) | (simp; omega)) | refine Below.then ?_ hb7 (by first | omega | (simp; done) | (simp; omega)) | refine Below.then ?_ hb6 (by first | omega | (simp; done) | (simp; omega)) | refine Below.then ?_ hb5 (by first | omega | (simp; done) | (simp; omega)) | refine Below.then ?_ hb4 (by first | omega | (simp; done) | (simp; omega)) | refine Below.then ?_ hb3 (by first | omega | (simp; done) | (simp; omega)) | refine Below.then ?_ hb2 (by first | omega | (simp; done) | (simp; omega)) | refine Below.then ?_ hb1 (by first | omega | (simp; done) | (simp; omega))))⟩
  have g1 : ((l.length : Int) != (l'.length : Int)) = false := by rw [bne_eq_false_iff_eq]; omega
  have hl1 : l.length ≤ l'.length := by omega
  have hl2 : l'.length ≤ l.length := by omega
  clear hl
  go_enter Try.func22, Try.ntmps22
  go_wp2_with fail
  have hA : ((w.alloc (.cells #[.int .i64 x1, .int .i64 s1, .int .i64 m1, .int .u64 k1, .slice a l.length c] 52)).alloc (.cells #[.int .i64 x1, .int .i64 s1, .int .i64 m1, .int .u64 k1, .slice a' l'.length c'] 52)).cell? ⟨w.heap.size, 4, none⟩ = some (.slice a l.length c) := by simp [go_sem]
  have hB : ((w.alloc (.cells #[.int .i64 x1, .int .i64 s1, .int .i64 m1, .int .u64 k1, .slice a l.length c] 52)).alloc (.cells #[.int .i64 x1, .int .i64 s1, .int .i64 m1, .int .u64 k1, .slice a' l'.length c'] 52)).cell? ⟨w.heap.size + 1, 4, none⟩ = some (.slice a' l'.length c') := by simp [go_sem]
  have hz : ((w.alloc (.cells #[.int .i64 x1, .int .i64 s1, .int .i64 m1, .int .u64 k1, .slice a l.length c] 52)).alloc (.cells #[.int .i64 x1, .int .i64 s1, .int .i64 m1, .int .u64 k1, .slice a' l'.length c'] 52)).heap.size = w.heap.size + 2 := by simp
  have hb : Below w.heap.size w ((w.alloc (.cells #[.int .i64 x1, .int .i64 s1, .int .i64 m1, .int .u64 k1, .slice a l.length c] 52)).alloc (.cells #[.int .i64 x1, .int .i64 s1, .int .i64 m1, .int .u64 k1, .slice a' l'.length c'] 52)) := by (repeat (first | exact Below.refl _ _ | (with_reducible assumption) | refine Below.drew ?_ | refine Below.drewN' ?_ _ | refine Below.alloc ?_ (by first | omega | (simp; done) | (simp; omega)) _ | refine Below.setCell ?_ (by first | omega | (simp; done) | (simp; omega)) _ | refine Below.then ?_ hb9 (by first | omega | (simp; done) | (simp; omega)) | refine Below.then ?_ hb8 (by first | omega | (simp; done) | (simp; omega)) | refine Below.then ?_ hb7 (by first | omega | (simp; done) | (simp; omega)) | refine Below.then ?_ hb6 (by first | omega | (simp; done) | (simp; omega)) | refine Below.then ?_ hb5 (by first | omega | (simp; done) | (simp; omega)) | refine Below.then ?_ hb4 (by first | omega | (simp; done) | (simp; omega)) | refine Below.then ?_ hb3 (by first | omega | (simp; done) | (simp; omega)) | refine Below.then ?_ hb2 (by first | omega | (simp; done) | (simp; omega)) | refine Below.then ?_ hb1 (by first | omega | (simp; done) | (simp; omega))))
  generalize (w.alloc (.cells #[.int .i64 x1, .int .i64 s1, .int .i64 m1, .int .u64 k1, .slice a l.length c] 52)).alloc (.cells #[.int .i64 x1, .int .i64 s1, .int .i64 m1, .int .u64 k1, .slice a' l'.length c'] 52) = w1 at hA hB hz hb ⊢
  go_loopw [5] (fun iv wr => ∃ k : Nat, k ≤ l.length ∧ iv = .int .i64 k ∧ Below w1.heap.size w1 wr ∧ Hid (l.take k = l'.take k)) (fun iv _ => l.length - (intOf iv).toNat)
  case atStart => exact ⟨0, Nat.zero_le _, rfl, Below.refl _ _, Lib.hid (by simp)⟩
  case round =>
    obtain ⟨k, hk, rfl, hBr, hall⟩ := hrel
    have hzB := hBr.size
    have rA := (hBr.cell (p := ⟨w.heap.size, 4, none⟩) (by show w.heap.size < _; omega)).trans hA
    have rB := (hBr.cell (p := ⟨w.heap.size + 1, 4, none⟩) (by show w.heap.size + 1 < _; omega)).trans hB
    have hb0r : Below w.heap.size w wr := hb.trans (hBr.mono (by omega))
    by_cases hlt : k < l.length
    · obtain ⟨bb, o, rfl, hbl, hc⟩ := u64_at (show WdsOf wr a l from SlOf.below HS.out hb0r) k hlt
      obtain ⟨bb', o', rfl, hbl', hc'⟩ := u64_at (show WdsOf wr a' l' from SlOf.below HS'.out hb0r) k (by omega)
      have i1 : (k : Int) < (l.length : Int) := by omega
      have i2 : (k : Int) < (l'.length : Int) := by omega
      by_cases hx : l[k] = l'[k]
      · have g2 : (l[k] != l'[k]) = false := by rw [bne_eq_false_iff_eq]; exact hx
        have hall' := Lib.hid (take_succ_eq hall.out hlt (by omega) hx)
        clear hall hx
        go_wp2_with fail
        go_quiet (fail)
        go_wp2
        go_roundw
        case rel => exact ⟨k + 1, by omega, by go_num, by (repeat (first | exact Below.refl _ _ | (with_reducible assumption) | refine Below.drew ?_ | refine Below.drewN' ?_ _ | refine Below.alloc ?_ (by first | omega | (simp; done) | (simp; omega)) _ | refine Below.setCell ?_ (by first | omega | (simp; done) | (simp; omega)) _ | refine Below.then ?_ hb9 (by first | omega | (simp; done) | (simp; omega)) | refine Below.then ?_ hb8 (by first | omega | (simp; done) | (simp; omega)) | refine Below.then ?_ hb7 (by first | omega | (simp; done) | (simp; omega)) | refine Below.then ?_ hb6 (by first | omega | (simp; done) | (simp; omega)) | refine Below.then ?_ hb5 (by first | omega | (simp; done) | (simp; omega)) | refine Below.then ?_ hb4 (by first | omega | (simp; done) | (simp; omega)) | refine Below.then ?_ hb3 (by first | omega | (simp; done) | (simp; omega)) | refine Below.then ?_ hb2 (by first | omega | (simp; done) | (simp; omega)) | refine Below.then ?_ hb1 (by first | omega | (simp; done) | (simp; omega)))), hall'⟩
        case measure => simp [intOf]; omega
      · have g2 : (l[k] != l'[k]) = true := bne_iff_ne.2 hx
        have hf : decide (l = l') = false := by
          rw [decide_eq_false_iff_not]
          intro e
          apply hx
          subst e
          rfl
        have HF := Lib.hid hf
        clear hall hx hf
        go_wp2_with fail
        go_quiet (fail)
        go_wp2
        go_ret
        exact ⟨by rw [HF.out]; rfl, Below.drewN' hb0r _⟩
    · obtain rfl : k = l.length := by omega
      have hf : decide (l = l') = true := by
        rw [decide_eq_true_eq]
        have := hall.out
        rwa [List.take_of_length_le (Nat.le_refl _), List.take_of_length_le hl2] at this
      have HF := Lib.hid hf
      clear hf hall
      go_wp2
      go_ret
      exact ⟨by rw [HF.out]; rfl, hb0r⟩

set_option maxRecDepth 100000 in
theorem has_calls (p b : Nat) (l : List Int) (la : Option Addr) (lc : Nat) (l' : List Int) (h1 : 1 ≤ l'.length) (h2 : l'.length ≤ 16384) (hr : ∀ x ∈ l', 0 ≤ x ∧ x < 18446744073709551616) (w : World) (h : Ar w p b l) (h' : WdsOf w la l') :
    Calls Try.prog 21 #[.pointer (some ⟨p, 0, none⟩), .slice la l'.length lc] w fun e w' => e = .returned (.bool (decide (l = l'))) ∧ Below w.heap.size w w' := by
  have OF := Lib.hid (fun W h => arOf_calls la lc l' h1 h2 hr W h)
  have SM := Lib.hid (fun p' b' W h h' => arSame_calls p b l p' b' l' W h h')
  have HA := Lib.hid h
  have HW := Lib.hid h'
  clear h h' hr
  go_enter Try.func21, Try.ntmps21
  go_wp2_with fail
  refine (OF.out _ HW.out).mono ?_
  rintro e1 w1 ⟨rfl, ha1, hb1⟩
  have hz1 := hb1.size
  have HA1 := Lib.hid ha1
  have HA0 := Lib.hid (HA.out.below hb1)
  clear ha1
  go_wp2_with (first | (go_at_call 11; go_in) | (go_at_call 47; refine (SM.out _ _ _ HA0.out HA1.out).mono ?_; rintro e2 w2 ⟨rfl, hb2⟩; have hz2 := hb2.size; (try simp at hz2)))
  go_ret
  exact ⟨rfl, by (repeat (first | exact Below.refl _ _ | (with_reducible assumption) | refine Below.drew ?_ | refine Below.drewN' ?_ _ | refine Below.alloc ?_ (by first | omega | (simp; done) | (simp; omega)) _ | refine Below.setCell ?_ (by first | omega | (simp; done) | (simp; omega)) _ | refine Below.then ?_ hb9 (by first | omega | (simp; done) | (simp; omega)) | refine Below.then ?_ hb8 (by first | omega | (simp; done) | (simp; omega)) | refine Below.then ?_ hb7 (by first | omega | (simp; done) | (simp; omega)) | refine Below.then ?_ hb6 (by first | omega | (simp; done) | (simp; omega)) | refine Below.then ?_ hb5 (by first | omega | (simp; done) | (simp; omega)) | refine Below.then ?_ hb4 (by first | omega | (simp; done) | (simp; omega)) | refine Below.then ?_ hb3 (by first | omega | (simp; done) | (simp; omega)) | refine Below.then ?_ hb2 (by first | omega | (simp; done) | (simp; omega)) | refine Below.then ?_ hb1 (by first | omega | (simp; done) | (simp; omega))))⟩
end Go.Proofs.Ytiodkcecpnomcaa
