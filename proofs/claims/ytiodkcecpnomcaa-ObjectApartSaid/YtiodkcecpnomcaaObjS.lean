/- The reference of layer 'object': what stands at a word; where fields stand. -/
import Derived.Test.YtiodkcecpnomcaaObjR
namespace Go.Proofs.Ytiodkcecpnomcaa
open Go.RowKit
set_option linter.unusedVariables false
set_option linter.unusedSimpArgs false

/-- a list of words, and a plan, as arguments -/
structure RIn (W : World) (la : Option Addr) (l : List Int) (a : Option Addr) (ss : List ByteArray) : Prop where
  rng : ∀ x ∈ l, 0 ≤ x ∧ x < 18446744073709551616
  len : l.length ≤ 16384
  fit : Fit ss
  wds : WdsOf W la l
  sh : SlOf W a (strV ss)
theorem RIn.below {W W' : World} {la : Option Addr} {l : List Int} {a : Option Addr} {ss : List ByteArray} (h : RIn W la l a ss) (hb : Below W.heap.size W W') : RIn W' la l a ss :=
  ⟨h.rng, h.len, h.fit, SlOf.below h.wds hb, h.sh.below hb⟩
theorem RIn.alloc {W : World} {la : Option Addr} {l : List Int} {a : Option Addr} {ss : List ByteArray} (h : RIn W la l a ss) (o : Obj) : RIn (W.alloc o) la l a ss := h.below ((Below.refl _ _).alloc (Nat.le_refl _) _)

/-- the words that are in range: an address, its word -/
theorem at_word {t sp : Int} {ss : List ByteArray} {l : List Int} {at_ : Int} (hp : planB t sp ss = true) (hl : 3 + 2 * t + 2 * sp = (l.length : Int)) (ho : ¬ (at_ < 3 + 2 * t ∨ szP t sp ≤ at_)) :
    ∃ i : Nat, at_ = (i : Int) ∧ 3 + 2 * t ≤ (i : Int) ∧ (i : Int) < szP t sp ∧ ∃ hi : i < l.length, wordAt l (i : Int) = l[i] := by
  obtain ⟨b1, b2, b3, b4, _⟩ := plan_ok hp
  have h1 : at_ < szP t sp := by omega
  unfold szP at h1
  have hi : at_.toNat < l.length := by omega
  refine ⟨at_.toNat, by omega, by omega, by unfold szP; omega, hi, ?_⟩
  unfold wordAt
  rw [Int.toNat_natCast, List.getD_eq_getElem?_getD, List.getElem?_eq_getElem hi]
  rfl

set_option maxRecDepth 100000 in
set_option maxHeartbeats 1600000 in
theorem r7Stands_calls (la : Option Addr) (lc : Nat) (l : List Int) (t sp : Int) (a : Option Addr) (c : Nat) (ss : List ByteArray) (at_ : Int) (w : World) (h : RIn w la l a ss) :
    Calls Try.prog 33 #[.slice la l.length lc, .agg #[.int .i64 t, .int .i64 sp, .slice a ss.length c], .int .i64 at_] w fun e w' => e = .returned (.int .i64 (objE t sp ss l at_)) ∧ Below w.heap.size w w' := by
  have hR := fun W (h : RIn W la l a ss) => r7Right_calls la lc l.length t sp a c ss h.fit W h.sh
  have HH := Lib.hid h
  by_cases hr : rightP t sp ss l.length = true
  case neg =>
    have e1 : objE t sp ss l at_ = 2 := by unfold objE; rw [if_neg hr]
    rw [e1]
    rw [Bool.not_eq_true] at hr
    rw [hr] at hR
    have HR := Lib.hid hR
    clear hR hr e1 h
    go_enter Try.func33, Try.ntmps33
    go_wp2_with fail
    refine (HR.out _ (HH.out.alloc _)).mono ?_; rintro e1 w1 ⟨rfl, hb1⟩; have hz1 := hb1.size; (try simp at hz1)
    go_wp2
    go_ret
    exact ⟨rfl, by (repeat (first | exact Below.refl _ _ | (with_reducible assumption) | refine Below.drew ?_ | refine Below.drewN' ?_ _ | refine Below.alloc ?_ (by first | omega | (simp; done) | (simp; omega)) _ | refine Below.setCell ?_ (by first | omega | (simp; done) | (simp; omega)) _ | refine Below.then ?_ hb9 (by first | omega | (simp; done) | (simp; omega)) | refine Below.then ?_ hb8 (by first | omega | (simp; done) | (simp; omega)) | refine Below.then ?_ hb7 (by first | omega | (simp; done) | (simp; omega)) | refine Below.then ?_ hb6 (by first | omega | (simp; done) | (simp; omega)) | refine Below.then ?_ hb5 (by first | omega | (simp; done) | (simp; omega)) | refine Below.then ?_ hb4 (by first | omega | (simp; done) | (simp; omega)) | refine Below.then ?_ hb3 (by first | omega | (simp; done) | (simp; omega)) | refine Below.then ?_ hb2 (by first | omega | (simp; done) | (simp; omega)) | refine Below.then ?_ hb1 (by first | omega | (simp; done) | (simp; omega))))⟩
  have hr' := hr
  unfold rightP at hr'
  simp only [Bool.and_eq_true, decide_eq_true_eq] at hr'
  obtain ⟨b1, b2, b3, b4, _⟩ := plan_ok hr'.1
  have hS := fun W => lySpace_calls t sp a c ss.length at_ b1 b2 b3 b4 W
  rw [hr] at hR
  have HR := Lib.hid hR
  clear hR
  by_cases ho : at_ < 3 + 2 * t ∨ szP t sp ≤ at_
  · have e1 : objE t sp ss l at_ = 4 := by unfold objE standE; rw [if_pos hr, if_pos ho]
    rw [e1]
    rw [space_out ho] at hS
    have HS := Lib.hid hS
    clear hS hr hr' h ho e1
    go_enter Try.func33, Try.ntmps33
    go_wp2_with fail
    refine (HR.out _ (HH.out.alloc _)).mono ?_; rintro e1 w1 ⟨rfl, hb1⟩; obtain ⟨hc1, hf1⟩ := bcell hb1; have hz1 := hb1.size; (try simp at hz1)
    have q0 := hc1 w.heap.size 0 (by first | omega | (simp; done) | (simp; omega)); simp [go_sem] at q0
    have q1 := hc1 w.heap.size 1 (by first | omega | (simp; done) | (simp; omega)); simp [go_sem] at q1
    have q2 := hc1 w.heap.size 2 (by first | omega | (simp; done) | (simp; omega)); simp [go_sem] at q2
    go_wp2_with fail
    refine (HS.out _).mono ?_; rintro e2 w2 ⟨rfl, hb2⟩; have hz2 := hb2.size; (try simp at hz2)
    go_wp2
    go_ret
    exact ⟨rfl, by (repeat (first | exact Below.refl _ _ | (with_reducible assumption) | refine Below.drew ?_ | refine Below.drewN' ?_ _ | refine Below.alloc ?_ (by first | omega | (simp; done) | (simp; omega)) _ | refine Below.setCell ?_ (by first | omega | (simp; done) | (simp; omega)) _ | refine Below.then ?_ hb9 (by first | omega | (simp; done) | (simp; omega)) | refine Below.then ?_ hb8 (by first | omega | (simp; done) | (simp; omega)) | refine Below.then ?_ hb7 (by first | omega | (simp; done) | (simp; omega)) | refine Below.then ?_ hb6 (by first | omega | (simp; done) | (simp; omega)) | refine Below.then ?_ hb5 (by first | omega | (simp; done) | (simp; omega)) | refine Below.then ?_ hb4 (by first | omega | (simp; done) | (simp; omega)) | refine Below.then ?_ hb3 (by first | omega | (simp; done) | (simp; omega)) | refine Below.then ?_ hb2 (by first | omega | (simp; done) | (simp; omega)) | refine Below.then ?_ hb1 (by first | omega | (simp; done) | (simp; omega))))⟩
  · obtain ⟨i, rfl, h0, h1, hi, hw⟩ := at_word hr'.1 hr'.2 ho
    have hZ := fun W (h : RIn W la l a ss) => r7Size_calls la lc l h.rng h.len t sp a c ss i h.fit hr'.1 h0 h1 hi W h.wds h.sh
    have hsp : 0 ≤ ((i : Int) - (3 + 2 * t)) / sp := Int.ediv_nonneg (by omega) (by omega)
    rw [space_in h0 h1] at hS
    have g0 : decide (((i : Int) - (3 + 2 * t)) / sp < 0) = false := by rw [decide_eq_false_iff_not]; omega
    have e1 : objE t sp ss l i = if sizeO t sp ss l[i] i = 0 then 170 else 0 := by unfold objE standE; rw [if_pos hr, if_neg ho, hw]
    rw [e1]
    generalize ((i : Int) - (3 + 2 * t)) / sp = spv at hS hsp g0
    generalize sizeO t sp ss l[i] i = nn at hZ
    have HS := Lib.hid hS
    have HZ := Lib.hid hZ
    clear hS hZ hr hr' h ho e1
    by_cases hn0 : nn = 0
    · have g1 : (nn == 0) = true := beq_iff_eq.2 hn0
      go_enter Try.func33, Try.ntmps33
      go_wp2_with fail
      refine (HR.out _ (HH.out.alloc _)).mono ?_; rintro e1 w1 ⟨rfl, hb1⟩; obtain ⟨hc1, hf1⟩ := bcell hb1; have hz1 := hb1.size; (try simp at hz1)
      have q0 := hc1 w.heap.size 0 (by first | omega | (simp; done) | (simp; omega)); simp [go_sem] at q0
      have q1 := hc1 w.heap.size 1 (by first | omega | (simp; done) | (simp; omega)); simp [go_sem] at q1
      have q2 := hc1 w.heap.size 2 (by first | omega | (simp; done) | (simp; omega)); simp [go_sem] at q2
      go_wp2_with fail
      refine (HS.out _).mono ?_; rintro e2 w2 ⟨rfl, hb2⟩; have hz2 := hb2.size; (try simp at hz2)
      have l2 : w.heap.size < w1.heap.size := by first | omega | (simp; done) | (simp; omega)
      replace q0 := hold_cell (w2 := w2) q0 (by (repeat (first | exact Below.refl _ _ | (with_reducible assumption) | refine Below.drew ?_ | refine Below.drewN' ?_ _ | refine Below.alloc ?_ (by first | omega | (simp; done) | (simp; omega)) _ | refine Below.setCell ?_ (by first | omega | (simp; done) | (simp; omega)) _ | refine Below.then ?_ hb9 (by first | omega | (simp; done) | (simp; omega)) | refine Below.then ?_ hb8 (by first | omega | (simp; done) | (simp; omega)) | refine Below.then ?_ hb7 (by first | omega | (simp; done) | (simp; omega)) | refine Below.then ?_ hb6 (by first | omega | (simp; done) | (simp; omega)) | refine Below.then ?_ hb5 (by first | omega | (simp; done) | (simp; omega)) | refine Below.then ?_ hb4 (by first | omega | (simp; done) | (simp; omega)) | refine Below.then ?_ hb3 (by first | omega | (simp; done) | (simp; omega)) | refine Below.then ?_ hb2 (by first | omega | (simp; done) | (simp; omega)) | refine Below.then ?_ hb1 (by first | omega | (simp; done) | (simp; omega))))) (by first | omega | (simp; done) | (simp; omega))
      replace q1 := hold_cell (w2 := w2) q1 (by (repeat (first | exact Below.refl _ _ | (with_reducible assumption) | refine Below.drew ?_ | refine Below.drewN' ?_ _ | refine Below.alloc ?_ (by first | omega | (simp; done) | (simp; omega)) _ | refine Below.setCell ?_ (by first | omega | (simp; done) | (simp; omega)) _ | refine Below.then ?_ hb9 (by first | omega | (simp; done) | (simp; omega)) | refine Below.then ?_ hb8 (by first | omega | (simp; done) | (simp; omega)) | refine Below.then ?_ hb7 (by first | omega | (simp; done) | (simp; omega)) | refine Below.then ?_ hb6 (by first | omega | (simp; done) | (simp; omega)) | refine Below.then ?_ hb5 (by first | omega | (simp; done) | (simp; omega)) | refine Below.then ?_ hb4 (by first | omega | (simp; done) | (simp; omega)) | refine Below.then ?_ hb3 (by first | omega | (simp; done) | (simp; omega)) | refine Below.then ?_ hb2 (by first | omega | (simp; done) | (simp; omega)) | refine Below.then ?_ hb1 (by first | omega | (simp; done) | (simp; omega))))) (by first | omega | (simp; done) | (simp; omega))
      replace q2 := hold_cell (w2 := w2) q2 (by (repeat (first | exact Below.refl _ _ | (with_reducible assumption) | refine Below.drew ?_ | refine Below.drewN' ?_ _ | refine Below.alloc ?_ (by first | omega | (simp; done) | (simp; omega)) _ | refine Below.setCell ?_ (by first | omega | (simp; done) | (simp; omega)) _ | refine Below.then ?_ hb9 (by first | omega | (simp; done) | (simp; omega)) | refine Below.then ?_ hb8 (by first | omega | (simp; done) | (simp; omega)) | refine Below.then ?_ hb7 (by first | omega | (simp; done) | (simp; omega)) | refine Below.then ?_ hb6 (by first | omega | (simp; done) | (simp; omega)) | refine Below.then ?_ hb5 (by first | omega | (simp; done) | (simp; omega)) | refine Below.then ?_ hb4 (by first | omega | (simp; done) | (simp; omega)) | refine Below.then ?_ hb3 (by first | omega | (simp; done) | (simp; omega)) | refine Below.then ?_ hb2 (by first | omega | (simp; done) | (simp; omega)) | refine Below.then ?_ hb1 (by first | omega | (simp; done) | (simp; omega))))) (by first | omega | (simp; done) | (simp; omega))
      go_wp2_with fail
      refine (HZ.out _ (((HH.out.alloc _).below hb1).below hb2)).mono ?_; rintro e3 w3 ⟨rfl, hb3⟩; have hz3 := hb3.size; (try simp at hz3)
      go_wp2
      go_ret
      exact ⟨by first | rfl | simp [*], by (repeat (first | exact Below.refl _ _ | (with_reducible assumption) | refine Below.drew ?_ | refine Below.drewN' ?_ _ | refine Below.alloc ?_ (by first | omega | (simp; done) | (simp; omega)) _ | refine Below.setCell ?_ (by first | omega | (simp; done) | (simp; omega)) _ | refine Below.then ?_ hb9 (by first | omega | (simp; done) | (simp; omega)) | refine Below.then ?_ hb8 (by first | omega | (simp; done) | (simp; omega)) | refine Below.then ?_ hb7 (by first | omega | (simp; done) | (simp; omega)) | refine Below.then ?_ hb6 (by first | omega | (simp; done) | (simp; omega)) | refine Below.then ?_ hb5 (by first | omega | (simp; done) | (simp; omega)) | refine Below.then ?_ hb4 (by first | omega | (simp; done) | (simp; omega)) | refine Below.then ?_ hb3 (by first | omega | (simp; done) | (simp; omega)) | refine Below.then ?_ hb2 (by first | omega | (simp; done) | (simp; omega)) | refine Below.then ?_ hb1 (by first | omega | (simp; done) | (simp; omega))))⟩
    · have g1 : (nn == 0) = false := beq_eq_false_iff_ne.2 hn0
      go_enter Try.func33, Try.ntmps33
      go_wp2_with fail
      refine (HR.out _ (HH.out.alloc _)).mono ?_; rintro e1 w1 ⟨rfl, hb1⟩; obtain ⟨hc1, hf1⟩ := bcell hb1; have hz1 := hb1.size; (try simp at hz1)
      have q0 := hc1 w.heap.size 0 (by first | omega | (simp; done) | (simp; omega)); simp [go_sem] at q0
      have q1 := hc1 w.heap.size 1 (by first | omega | (simp; done) | (simp; omega)); simp [go_sem] at q1
      have q2 := hc1 w.heap.size 2 (by first | omega | (simp; done) | (simp; omega)); simp [go_sem] at q2
      go_wp2_with fail
      refine (HS.out _).mono ?_; rintro e2 w2 ⟨rfl, hb2⟩; have hz2 := hb2.size; (try simp at hz2)
      have l2 : w.heap.size < w1.heap.size := by first | omega | (simp; done) | (simp; omega)
      replace q0 := hold_cell (w2 := w2) q0 (by (repeat (first | exact Below.refl _ _ | (with_reducible assumption) | refine Below.drew ?_ | refine Below.drewN' ?_ _ | refine Below.alloc ?_ (by first | omega | (simp; done) | (simp; omega)) _ | refine Below.setCell ?_ (by first | omega | (simp; done) | (simp; omega)) _ | refine Below.then ?_ hb9 (by first | omega | (simp; done) | (simp; omega)) | refine Below.then ?_ hb8 (by first | omega | (simp; done) | (simp; omega)) | refine Below.then ?_ hb7 (by first | omega | (simp; done) | (simp; omega)) | refine Below.then ?_ hb6 (by first | omega | (simp; done) | (simp; omega)) | refine Below.then ?_ hb5 (by first | omega | (simp; done) | (simp; omega)) | refine Below.then ?_ hb4 (by first | omega | (simp; done) | (simp; omega)) | refine Below.then ?_ hb3 (by first | omega | (simp; done) | (simp; omega)) | refine Below.then ?_ hb2 (by first | omega | (simp; done) | (simp; omega)) | refine Below.then ?_ hb1 (by first | omega | (simp; done) | (simp; omega))))) (by first | omega | (simp; done) | (simp; omega))
      replace q1 := hold_cell (w2 := w2) q1 (by (repeat (first | exact Below.refl _ _ | (with_reducible assumption) | refine Below.drew ?_ | refine Below.drewN' ?_ _ | refine Below.alloc ?_ (by first | omega | (simp; done) | (simp; omega)) _ | refine Below.setCell ?_ (by first | omega | (simp; done) | (simp; omega)) _ | refine Below.then ?_ hb9 (by first | omega | (simp; done) | (simp; omega)) | refine Below.then ?_ hb8 (by first | omega | (simp; done) | (simp; omega)) | refine Below.then ?_ hb7 (by first | omega | (simp; done) | (simp; omega)) | refine Below.then ?_ hb6 (by first | omega | (simp; done) | (simp; omega)) | refine Below.then ?_ hb5 (by first | omega | (simp; done) | (simp; omega)) | refine Below.then ?_ hb4 (by first | omega | (simp; done) | (simp; omega)) | refine Below.then ?_ hb3 (by first | omega | (simp; done) | (simp; omega)) | refine Below.then ?_ hb2 (by first | omega | (simp; done) | (simp; omega)) | refine Below.then ?_ hb1 (by first | omega | (simp; done) | (simp; omega))))) (by first | omega | (simp; done) | (simp; omega))
      replace q2 := hold_cell (w2 := w2) q2 (by (repeat (first | exact Below.refl _ _ | (with_reducible assumption) | refine Below.drew ?_ | refine Below.drewN' ?_ _ | refine Below.alloc ?_ (by first | omega | (simp; done) | (simp; omega)) _ | refine Below.setCell ?_ (by first | omega | (simp; done) | (simp; omega)) _ | refine Below.then ?_ hb9 (by first | omega | (simp; done) | (simp; omega)) | refine Below.then ?_ hb8 (by first | omega | (simp; done) | (simp; omega)) | refine Below.then ?_ hb7 (by first | omega | (simp; done) | (simp; omega)) | refine Below.then ?_ hb6 (by first | omega | (simp; done) | (simp; omega)) | refine Below.then ?_ hb5 (by first | omega | (simp; done) | (simp; omega)) | refine Below.then ?_ hb4 (by first | omega | (simp; done) | (simp; omega)) | refine Below.then ?_ hb3 (by first | omega | (simp; done) | (simp; omega)) | refine Below.then ?_ hb2 (by first | omega | (simp; done) | (simp; omega)) | refine Below.then ?_ hb1 (by first | omega | (simp; done) | (simp; omega))))) (by first | omega | (simp; done) | (simp; omega))
      go_wp2_with fail
      refine (HZ.out _ (((HH.out.alloc _).below hb1).below hb2)).mono ?_; rintro e3 w3 ⟨rfl, hb3⟩; have hz3 := hb3.size; (try simp at hz3)
      go_wp2
      go_ret
      exact ⟨by first | rfl | simp [*], by (repeat (first | exact Below.refl _ _ | (with_reducible assumption) | refine Below.drew ?_ | refine Below.drewN' ?_ _ | refine Below.alloc ?_ (by first | omega | (simp; done) | (simp; omega)) _ | refine Below.setCell ?_ (by first | omega | (simp; done) | (simp; omega)) _ | refine Below.then ?_ hb9 (by first | omega | (simp; done) | (simp; omega)) | refine Below.then ?_ hb8 (by first | omega | (simp; done) | (simp; omega)) | refine Below.then ?_ hb7 (by first | omega | (simp; done) | (simp; omega)) | refine Below.then ?_ hb6 (by first | omega | (simp; done) | (simp; omega)) | refine Below.then ?_ hb5 (by first | omega | (simp; done) | (simp; omega)) | refine Below.then ?_ hb4 (by first | omega | (simp; done) | (simp; omega)) | refine Below.then ?_ hb3 (by first | omega | (simp; done) | (simp; omega)) | refine Below.then ?_ hb2 (by first | omega | (simp; done) | (simp; omega)) | refine Below.then ?_ hb1 (by first | omega | (simp; done) | (simp; omega))))⟩

set_option maxRecDepth 100000 in
set_option maxHeartbeats 1600000 in
theorem r7Place_calls (la : Option Addr) (lc : Nat) (l : List Int) (t sp : Int) (a : Option Addr) (c : Nat) (ss : List ByteArray) (at_ f : Int) (w : World) (h : RIn w la l a ss) :
    Calls Try.prog 14 #[.slice la l.length lc, .agg #[.int .i64 t, .int .i64 sp, .slice a ss.length c], .int .i64 at_, .int .i64 f] w fun e w' => e = .returned (.tuple #[.int .i64 (placN t sp ss l at_ f), .int .i64 (placE t sp ss l at_ f)]) ∧ Below w.heap.size w w' := by
  have hR := fun W h => r7Stands_calls la lc l t sp a c ss at_ W h
  have HH := Lib.hid h
  by_cases he : objE t sp ss l at_ = 0
  case neg =>
    have e1 : placE t sp ss l at_ f = objE t sp ss l at_ := by unfold placE; rw [if_neg he]
    have e2 : placN t sp ss l at_ f = 0 := by unfold placN; rw [e1, if_neg he]
    rw [e1, e2]
    generalize objE t sp ss l at_ = ee at hR he
    have g1 : (ee != 0) = true := bne_iff_ne.2 he
    have HR := Lib.hid hR
    clear hR e1 e2 h
    go_enter Try.func14, Try.ntmps14
    go_wp2_with fail
    refine (HR.out _ (HH.out.alloc _)).mono ?_; rintro e1 w1 ⟨rfl, hb1⟩; have hz1 := hb1.size; (try simp at hz1)
    go_wp2
    go_ret2
    exact ⟨rfl, by (repeat (first | exact Below.refl _ _ | (with_reducible assumption) | refine Below.drew ?_ | refine Below.drewN' ?_ _ | refine Below.alloc ?_ (by first | omega | (simp; done) | (simp; omega)) _ | refine Below.setCell ?_ (by first | omega | (simp; done) | (simp; omega)) _ | refine Below.then ?_ hb9 (by first | omega | (simp; done) | (simp; omega)) | refine Below.then ?_ hb8 (by first | omega | (simp; done) | (simp; omega)) | refine Below.then ?_ hb7 (by first | omega | (simp; done) | (simp; omega)) | refine Below.then ?_ hb6 (by first | omega | (simp; done) | (simp; omega)) | refine Below.then ?_ hb5 (by first | omega | (simp; done) | (simp; omega)) | refine Below.then ?_ hb4 (by first | omega | (simp; done) | (simp; omega)) | refine Below.then ?_ hb3 (by first | omega | (simp; done) | (simp; omega)) | refine Below.then ?_ hb2 (by first | omega | (simp; done) | (simp; omega)) | refine Below.then ?_ hb1 (by first | omega | (simp; done) | (simp; omega))))⟩
  have hr : rightP t sp ss l.length = true := by
    unfold objE at he
    by_cases hr : rightP t sp ss l.length = true
    · exact hr
    · rw [if_neg hr] at he; cases he
  have hr' := hr
  unfold rightP at hr'
  simp only [Bool.and_eq_true, decide_eq_true_eq] at hr'
  obtain ⟨b1, b2, b3, b4, _⟩ := plan_ok hr'.1
  have ho : ¬ (at_ < 3 + 2 * t ∨ szP t sp ≤ at_) := by
    intro ho
    unfold objE standE at he
    rw [if_pos hr, if_pos ho] at he
    cases he
  rw [he] at hR
  obtain ⟨i, rfl, h0, h1, hi, hw⟩ := at_word hr'.1 hr'.2 ho
  have hZ := fun W (h : RIn W la l a ss) => r7Size_calls la lc l h.rng h.len t sp a c ss i h.fit hr'.1 h0 h1 hi W h.wds h.sh
  have hs0 := size_nonneg t sp ss l[i] i
  have hs1 : sizeO t sp ss l[i] i ≤ sp := size_small b3
  have e1 : placE t sp ss l i f = if f < 0 ∨ sizeO t sp ss l[i] i - 2 ≤ f then 131 else 0 := by unfold placE; rw [if_pos he, hw]
  have e2 : placN t sp ss l i f = if f < 0 ∨ sizeO t sp ss l[i] i - 2 ≤ f then 0 else i + 2 + f := by
    unfold placN
    rw [e1]
    by_cases hc : f < 0 ∨ sizeO t sp ss l[i] i - 2 ≤ f
    · rw [if_pos hc, if_pos hc]; rfl
    · rw [if_neg hc, if_neg hc]; rfl
  rw [e1, e2]
  generalize sizeO t sp ss l[i] i = nn at hZ hs0 hs1
  have HR := Lib.hid hR
  have HZ := Lib.hid hZ
  unfold szP at h1
  clear hR hZ hr hr' h ho e1 e2 he
  by_cases hf0 : f < 0
  · go_enter Try.func14, Try.ntmps14
    go_wp2_with fail
    refine (HR.out _ (HH.out.alloc _)).mono ?_; rintro e1 w1 ⟨rfl, hb1⟩; obtain ⟨hc1, hf1⟩ := bcell hb1; have hz1 := hb1.size; (try simp at hz1)
    go_wp2
    go_ret2
    exact ⟨by first | rfl | simp [*], by (repeat (first | exact Below.refl _ _ | (with_reducible assumption) | refine Below.drew ?_ | refine Below.drewN' ?_ _ | refine Below.alloc ?_ (by first | omega | (simp; done) | (simp; omega)) _ | refine Below.setCell ?_ (by first | omega | (simp; done) | (simp; omega)) _ | refine Below.then ?_ hb9 (by first | omega | (simp; done) | (simp; omega)) | refine Below.then ?_ hb8 (by first | omega | (simp; done) | (simp; omega)) | refine Below.then ?_ hb7 (by first | omega | (simp; done) | (simp; omega)) | refine Below.then ?_ hb6 (by first | omega | (simp; done) | (simp; omega)) | refine Below.then ?_ hb5 (by first | omega | (simp; done) | (simp; omega)) | refine Below.then ?_ hb4 (by first | omega | (simp; done) | (simp; omega)) | refine Below.then ?_ hb3 (by first | omega | (simp; done) | (simp; omega)) | refine Below.then ?_ hb2 (by first | omega | (simp; done) | (simp; omega)) | refine Below.then ?_ hb1 (by first | omega | (simp; done) | (simp; omega))))⟩
  · by_cases hf1 : nn - 2 ≤ f
    · go_enter Try.func14, Try.ntmps14
      go_wp2_with fail
      refine (HR.out _ (HH.out.alloc _)).mono ?_; rintro e1 w1 ⟨rfl, hb1⟩; obtain ⟨hc1, hf1⟩ := bcell hb1; have hz1 := hb1.size; (try simp at hz1)
      have q0 := hc1 w.heap.size 0 (by first | omega | (simp; done) | (simp; omega)); simp [go_sem] at q0
      have q1 := hc1 w.heap.size 1 (by first | omega | (simp; done) | (simp; omega)); simp [go_sem] at q1
      have q2 := hc1 w.heap.size 2 (by first | omega | (simp; done) | (simp; omega)); simp [go_sem] at q2
      go_wp2_with fail
      refine (HZ.out _ ((HH.out.alloc _).below hb1)).mono ?_; rintro e2 w2 ⟨rfl, hb2⟩; have hz2 := hb2.size; (try simp at hz2)
      go_wp2
      go_ret2
      exact ⟨by first | rfl | simp [*], by (repeat (first | exact Below.refl _ _ | (with_reducible assumption) | refine Below.drew ?_ | refine Below.drewN' ?_ _ | refine Below.alloc ?_ (by first | omega | (simp; done) | (simp; omega)) _ | refine Below.setCell ?_ (by first | omega | (simp; done) | (simp; omega)) _ | refine Below.then ?_ hb9 (by first | omega | (simp; done) | (simp; omega)) | refine Below.then ?_ hb8 (by first | omega | (simp; done) | (simp; omega)) | refine Below.then ?_ hb7 (by first | omega | (simp; done) | (simp; omega)) | refine Below.then ?_ hb6 (by first | omega | (simp; done) | (simp; omega)) | refine Below.then ?_ hb5 (by first | omega | (simp; done) | (simp; omega)) | refine Below.then ?_ hb4 (by first | omega | (simp; done) | (simp; omega)) | refine Below.then ?_ hb3 (by first | omega | (simp; done) | (simp; omega)) | refine Below.then ?_ hb2 (by first | omega | (simp; done) | (simp; omega)) | refine Below.then ?_ hb1 (by first | omega | (simp; done) | (simp; omega))))⟩
    · go_enter Try.func14, Try.ntmps14
      go_wp2_with fail
      refine (HR.out _ (HH.out.alloc _)).mono ?_; rintro e1 w1 ⟨rfl, hb1⟩; obtain ⟨hc1, hf1⟩ := bcell hb1; have hz1 := hb1.size; (try simp at hz1)
      have q0 := hc1 w.heap.size 0 (by first | omega | (simp; done) | (simp; omega)); simp [go_sem] at q0
      have q1 := hc1 w.heap.size 1 (by first | omega | (simp; done) | (simp; omega)); simp [go_sem] at q1
      have q2 := hc1 w.heap.size 2 (by first | omega | (simp; done) | (simp; omega)); simp [go_sem] at q2
      go_wp2_with fail
      refine (HZ.out _ ((HH.out.alloc _).below hb1)).mono ?_; rintro e2 w2 ⟨rfl, hb2⟩; have hz2 := hb2.size; (try simp at hz2)
      go_wp2
      go_ret2
      exact ⟨by first | rfl | simp [*], by (repeat (first | exact Below.refl _ _ | (with_reducible assumption) | refine Below.drew ?_ | refine Below.drewN' ?_ _ | refine Below.alloc ?_ (by first | omega | (simp; done) | (simp; omega)) _ | refine Below.setCell ?_ (by first | omega | (simp; done) | (simp; omega)) _ | refine Below.then ?_ hb9 (by first | omega | (simp; done) | (simp; omega)) | refine Below.then ?_ hb8 (by first | omega | (simp; done) | (simp; omega)) | refine Below.then ?_ hb7 (by first | omega | (simp; done) | (simp; omega)) | refine Below.then ?_ hb6 (by first | omega | (simp; done) | (simp; omega)) | refine Below.then ?_ hb5 (by first | omega | (simp; done) | (simp; omega)) | refine Below.then ?_ hb4 (by first | omega | (simp; done) | (simp; omega)) | refine Below.then ?_ hb3 (by first | omega | (simp; done) | (simp; omega)) | refine Below.then ?_ hb2 (by first | omega | (simp; done) | (simp; omega)) | refine Below.then ?_ hb1 (by first | omega | (simp; done) | (simp; omega))))⟩
end Go.Proofs.Ytiodkcecpnomcaa
