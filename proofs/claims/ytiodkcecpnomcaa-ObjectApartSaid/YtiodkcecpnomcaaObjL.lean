/- The laws of layer 'object': without an arena nothing is told; where fields stand; the objects of words of a space. -/
import Derived.Test.YtiodkcecpnomcaaObjK
import Derived.Test.YtiodkcecpnomcaaLiftKit
namespace Go.Proofs.Ytiodkcecpnomcaa
open Go.RowKit
set_option linter.unusedVariables false
set_option linter.unusedSimpArgs false

theorem fit_of {ss : List ByteArray} {c : Nat} (h : ss.length ≤ maxLen ∧ ss.length ≤ c) (hs : ∀ s ∈ ss, s.size ≤ maxLen) : Fit ss := ⟨h.1, hs⟩

/-- what is at hand in a law: the heap's plan and words -/
structure LIn (W : World) (a : Option Addr) (c : Nat) (ss : List ByteArray) (wa : Option Addr) (wc : Nat) (ws : List Int) : Prop where
  fit : Fit ss
  sh : SlOf W a (strV ss)
  wn : wa = none → ws.length = 0 ∧ wc = 0
  rng : ∀ x ∈ ws, 0 ≤ x ∧ x < 18446744073709551616
  wds : WdsOf W wa ws
theorem LIn.below {W W' : World} {a : Option Addr} {c : Nat} {ss : List ByteArray} {wa : Option Addr} {wc : Nat} {ws : List Int} (h : LIn W a c ss wa wc ws) (hb : Below W.heap.size W W') : LIn W' a c ss wa wc ws :=
  ⟨h.fit, h.sh.below hb, h.wn, h.rng, SlOf.below h.wds hb⟩
theorem LIn.alloc {W : World} {a : Option Addr} {c : Nat} {ss : List ByteArray} {wa : Option Addr} {wc : Nat} {ws : List Int} (h : LIn W a c ss wa wc ws) (o : Obj) : LIn (W.alloc o) a c ss wa wc ws := h.below ((Below.refl _ _).alloc (Nat.le_refl _) _)

set_option maxRecDepth 1000000 in
set_option maxHeartbeats 6400000 in
theorem objectNil_walk (w : World) (t : Int) (_wt : (Lit.int .i64 t).wf = true) (sp : Int) (_wsp : (Lit.int .i64 sp).wf = true) (a : Option Addr) (c : Nat) (ss : List ByteArray) (hnc : ss.length ≤ maxLen ∧ ss.length ≤ c) (h : SlOf w a (strV ss)) (hs : ∀ s ∈ ss, s.size ≤ maxLen)
    (wa : Option Addr) (wc : Nat) (ws : List Int) (hwc : ws.length ≤ maxLen ∧ ws.length ≤ wc ∧ (wa = none → wc = 0)) (hw : WdsOf w wa ws) (hwr : ∀ z ∈ ws, (Lit.int .u64 z).wf = true) (more : Int) (_wm : (Lit.int .i64 more).wf = true) (at_ : Int) (_wat : (Lit.int .i64 at_).wf = true) :
    Calls Try.prog 6 #[.agg #[.int .i64 t, .int .i64 sp, .slice a ss.length c, .slice wa ws.length wc, .int .i64 more], .int .i64 at_] w fun e w' => e = .returned (.bool true) ∧ Below w.heap.size w w' := by
  have HL := Lib.hid (show LIn w a c ss wa wc ws from ⟨fit_of hnc hs, h, fun e => by have := hwc.2.2 e; omega, fun z hz => wf_u64 (hwr z hz), hw⟩)
  have WK := Lib.hid (fun W => works7_calls W)
  clear h hs hw hwr hwc hnc
  cases hm : madeB t sp ss ws.length more with
  | false =>
    have MN := fun W (h : LIn W a c ss wa wc ws) => made_no t sp a c ss wa wc ws.length more hm h.fit W h.sh
    unfold heapA at MN
    have MN := Lib.hid MN
    clear hm
    go_enter Try.func6, Try.ntmps6
    go_wp2_with fail
    refine (MN.out _ (HL.out.alloc _)).mono ?_; rintro e1 w1 ⟨rfl, hb1⟩; have hz1 := hb1.size; (try simp at hz1)
    go_wp2_with fail
    refine (WK.out _).mono ?_; rintro e2 w2 ⟨rfl, hb2⟩; have hz2 := hb2.size; (try simp at hz2)
    go_wp2
    go_ret
    exact ⟨rfl, by (repeat (first | exact Below.refl _ _ | (with_reducible assumption) | refine Below.drew ?_ | refine Below.drewN' ?_ _ | refine Below.alloc ?_ (by first | omega | (simp; done) | (simp; omega)) _ | refine Below.setCell ?_ (by first | omega | (simp; done) | (simp; omega)) _ | refine Below.then ?_ hb9 (by first | omega | (simp; done) | (simp; omega)) | refine Below.then ?_ hb8 (by first | omega | (simp; done) | (simp; omega)) | refine Below.then ?_ hb7 (by first | omega | (simp; done) | (simp; omega)) | refine Below.then ?_ hb6 (by first | omega | (simp; done) | (simp; omega)) | refine Below.then ?_ hb5 (by first | omega | (simp; done) | (simp; omega)) | refine Below.then ?_ hb4 (by first | omega | (simp; done) | (simp; omega)) | refine Below.then ?_ hb3 (by first | omega | (simp; done) | (simp; omega)) | refine Below.then ?_ hb2 (by first | omega | (simp; done) | (simp; omega)) | refine Below.then ?_ hb1 (by first | omega | (simp; done) | (simp; omega))))⟩
  | true =>
    have MO := fun W (h : LIn W a c ss wa wc ws) => made_ok t sp a c ss wa wc ws more hm h.fit h.wn h.rng W h.sh h.wds
    have hN : 66 ≤ madeN t sp more := by
      unfold madeB at hm
      simp only [Bool.and_eq_true, decide_eq_true_eq] at hm
      obtain ⟨⟨⟨⟨hp, h1⟩, h2⟩, h3⟩, h4⟩ := hm
      obtain ⟨b1, b2, b3, b4, _⟩ := plan_ok hp
      unfold madeN
      omega
    generalize madeN t sp more = N at MO hN
    have hN0 : ((N : Int) == 0) = false := beq_eq_false_iff_ne.2 (by omega)
    unfold heapA at MO
    have MO := Lib.hid MO
    have RD := Lib.hid (fun W => read_of none t sp a c ss.length at_ 1 W fun W' _ => of_nil none t sp a c ss.length W' fun W'' _ => arLen_nil W'')
    have PL := Lib.hid (fun W => place_of none t sp a c ss.length at_ 0 1 W fun W' _ => of_nil none t sp a c ss.length W' fun W'' _ => arLen_nil W'')
    have WL := Lib.hid (fun W => walk_of none t sp a c ss.length 0 0 1 1 W fun W' _ => of_nil none t sp a c ss.length W' fun W'' _ => arLen_nil W'')
    have PT := fun B (W : World) (hB : B < W.heap.size) (hc : W.cell? ⟨B, 0, none⟩ = some (.slice none 0 0)) => put_of (some ⟨B, 0, none⟩) t sp a c ss.length at_ 0 0 0 none 0 0 1 W fun W' hb' => of_nil (some ⟨B, 0, none⟩) t sp a c ss.length W' fun W'' hb'' => arLen_empty B W'' ((hb''.cell (p := ⟨B, 0, none⟩) (Nat.lt_of_lt_of_le hB hb'.size)).trans ((hb'.cell (p := ⟨B, 0, none⟩) hB).trans hc))
    unfold objV at PT
    have RD' := RD.out
    unfold objV at RD'
    have RD := Lib.hid RD'
    have PT := Lib.hid PT
    clear hm RD'
    go_enter Try.func6, Try.ntmps6
    go_wp2_with fail
    refine (MO.out _ (HL.out.alloc _)).mono ?_
    rintro e1 w1 ⟨g1, rfl, hw1, hb1⟩
    obtain ⟨hc1, hf1⟩ := bcell hb1
    have hz1 := hb1.size
    (try simp at hz1)
    have q0 := hc1 w.heap.size 0 (by first | omega | (simp; done) | (simp; omega)); simp [go_sem] at q0
    have q1 := hc1 w.heap.size 1 (by first | omega | (simp; done) | (simp; omega)); simp [go_sem] at q1
    have q2 := hc1 w.heap.size 2 (by first | omega | (simp; done) | (simp; omega)); simp [go_sem] at q2
    have q3 := hc1 w.heap.size 3 (by first | omega | (simp; done) | (simp; omega)); simp [go_sem] at q3
    have q4 := hc1 w.heap.size 4 (by first | omega | (simp; done) | (simp; omega)); simp [go_sem] at q4
    have hb01 : Below w.heap.size w w1 := by (repeat (first | exact Below.refl _ _ | (with_reducible assumption) | refine Below.drew ?_ | refine Below.drewN' ?_ _ | refine Below.alloc ?_ (by first | omega | (simp; done) | (simp; omega)) _ | refine Below.setCell ?_ (by first | omega | (simp; done) | (simp; omega)) _ | refine Below.then ?_ hb9 (by first | omega | (simp; done) | (simp; omega)) | refine Below.then ?_ hb8 (by first | omega | (simp; done) | (simp; omega)) | refine Below.then ?_ hb7 (by first | omega | (simp; done) | (simp; omega)) | refine Below.then ?_ hb6 (by first | omega | (simp; done) | (simp; omega)) | refine Below.then ?_ hb5 (by first | omega | (simp; done) | (simp; omega)) | refine Below.then ?_ hb4 (by first | omega | (simp; done) | (simp; omega)) | refine Below.then ?_ hb3 (by first | omega | (simp; done) | (simp; omega)) | refine Below.then ?_ hb2 (by first | omega | (simp; done) | (simp; omega)) | refine Below.then ?_ hb1 (by first | omega | (simp; done) | (simp; omega))))
    clear hc1 hf1 hw1 hb1
    go_wp2_with fail
    refine (RD.out _).mono ?_; rintro e2 w2 ⟨rfl, hb2⟩; have hz2 := hb2.size; (try simp at hz2)
    have l1 : w.heap.size < w1.heap.size := by first | omega | (simp; done) | (simp; omega)
    replace q0 := hold_cell (w2 := w2) q0 (by (repeat (first | exact Below.refl _ _ | (with_reducible assumption) | refine Below.drew ?_ | refine Below.drewN' ?_ _ | refine Below.alloc ?_ (by first | omega | (simp; done) | (simp; omega)) _ | refine Below.setCell ?_ (by first | omega | (simp; done) | (simp; omega)) _ | refine Below.then ?_ hb9 (by first | omega | (simp; done) | (simp; omega)) | refine Below.then ?_ hb8 (by first | omega | (simp; done) | (simp; omega)) | refine Below.then ?_ hb7 (by first | omega | (simp; done) | (simp; omega)) | refine Below.then ?_ hb6 (by first | omega | (simp; done) | (simp; omega)) | refine Below.then ?_ hb5 (by first | omega | (simp; done) | (simp; omega)) | refine Below.then ?_ hb4 (by first | omega | (simp; done) | (simp; omega)) | refine Below.then ?_ hb3 (by first | omega | (simp; done) | (simp; omega)) | refine Below.then ?_ hb2 (by first | omega | (simp; done) | (simp; omega)) | refine Below.then ?_ hb1 (by first | omega | (simp; done) | (simp; omega))))) (by first | omega | (simp; done) | (simp; omega))
    replace q1 := hold_cell (w2 := w2) q1 (by (repeat (first | exact Below.refl _ _ | (with_reducible assumption) | refine Below.drew ?_ | refine Below.drewN' ?_ _ | refine Below.alloc ?_ (by first | omega | (simp; done) | (simp; omega)) _ | refine Below.setCell ?_ (by first | omega | (simp; done) | (simp; omega)) _ | refine Below.then ?_ hb9 (by first | omega | (simp; done) | (simp; omega)) | refine Below.then ?_ hb8 (by first | omega | (simp; done) | (simp; omega)) | refine Below.then ?_ hb7 (by first | omega | (simp; done) | (simp; omega)) | refine Below.then ?_ hb6 (by first | omega | (simp; done) | (simp; omega)) | refine Below.then ?_ hb5 (by first | omega | (simp; done) | (simp; omega)) | refine Below.then ?_ hb4 (by first | omega | (simp; done) | (simp; omega)) | refine Below.then ?_ hb3 (by first | omega | (simp; done) | (simp; omega)) | refine Below.then ?_ hb2 (by first | omega | (simp; done) | (simp; omega)) | refine Below.then ?_ hb1 (by first | omega | (simp; done) | (simp; omega))))) (by first | omega | (simp; done) | (simp; omega))
    replace q2 := hold_cell (w2 := w2) q2 (by (repeat (first | exact Below.refl _ _ | (with_reducible assumption) | refine Below.drew ?_ | refine Below.drewN' ?_ _ | refine Below.alloc ?_ (by first | omega | (simp; done) | (simp; omega)) _ | refine Below.setCell ?_ (by first | omega | (simp; done) | (simp; omega)) _ | refine Below.then ?_ hb9 (by first | omega | (simp; done) | (simp; omega)) | refine Below.then ?_ hb8 (by first | omega | (simp; done) | (simp; omega)) | refine Below.then ?_ hb7 (by first | omega | (simp; done) | (simp; omega)) | refine Below.then ?_ hb6 (by first | omega | (simp; done) | (simp; omega)) | refine Below.then ?_ hb5 (by first | omega | (simp; done) | (simp; omega)) | refine Below.then ?_ hb4 (by first | omega | (simp; done) | (simp; omega)) | refine Below.then ?_ hb3 (by first | omega | (simp; done) | (simp; omega)) | refine Below.then ?_ hb2 (by first | omega | (simp; done) | (simp; omega)) | refine Below.then ?_ hb1 (by first | omega | (simp; done) | (simp; omega))))) (by first | omega | (simp; done) | (simp; omega))
    have l2 : w.heap.size < w2.heap.size := by first | omega | (simp; done) | (simp; omega)
    have hb02 := Below.then hb01 hb2 (by omega)
    go_wp2_with fail
    refine (PT.out _ _ ?hlt ?hcell).mono ?_
    case hlt => simp; first | done | omega
    case hcell => simp [go_sem]
    rintro e3 w3 ⟨rfl, hb3⟩
    have hb23 : Below w2.heap.size w2 w3 := (((Below.refl w2.heap.size w2).alloc (Nat.le_refl _) _).alloc (by simp) _).trans (hb3.mono (by simp; omega))
    have hz3 := hb23.size
    replace q0 := (hb23.cell (p := ⟨w.heap.size, 0, none⟩) l2).trans q0
    replace q1 := (hb23.cell (p := ⟨w.heap.size, 1, none⟩) l2).trans q1
    replace q2 := (hb23.cell (p := ⟨w.heap.size, 2, none⟩) l2).trans q2
    have hb03 := Below.then hb02 hb23 (by omega)
    have l3 : w.heap.size < w3.heap.size := by first | omega | (simp; done) | (simp; omega)
    go_wp2_with fail
    refine (PL.out _).mono ?_; rintro e4 w4 ⟨rfl, hb4⟩; have hz4 := hb4.size; (try simp at hz4)
    replace q0 := hold_cell (w2 := w4) q0 (by (repeat (first | exact Below.refl _ _ | (with_reducible assumption) | refine Below.drew ?_ | refine Below.drewN' ?_ _ | refine Below.alloc ?_ (by first | omega | (simp; done) | (simp; omega)) _ | refine Below.setCell ?_ (by first | omega | (simp; done) | (simp; omega)) _ | refine Below.then ?_ hb9 (by first | omega | (simp; done) | (simp; omega)) | refine Below.then ?_ hb8 (by first | omega | (simp; done) | (simp; omega)) | refine Below.then ?_ hb7 (by first | omega | (simp; done) | (simp; omega)) | refine Below.then ?_ hb6 (by first | omega | (simp; done) | (simp; omega)) | refine Below.then ?_ hb5 (by first | omega | (simp; done) | (simp; omega)) | refine Below.then ?_ hb4 (by first | omega | (simp; done) | (simp; omega)) | refine Below.then ?_ hb3 (by first | omega | (simp; done) | (simp; omega)) | refine Below.then ?_ hb2 (by first | omega | (simp; done) | (simp; omega)) | refine Below.then ?_ hb1 (by first | omega | (simp; done) | (simp; omega))))) (by first | omega | (simp; done) | (simp; omega))
    replace q1 := hold_cell (w2 := w4) q1 (by (repeat (first | exact Below.refl _ _ | (with_reducible assumption) | refine Below.drew ?_ | refine Below.drewN' ?_ _ | refine Below.alloc ?_ (by first | omega | (simp; done) | (simp; omega)) _ | refine Below.setCell ?_ (by first | omega | (simp; done) | (simp; omega)) _ | refine Below.then ?_ hb9 (by first | omega | (simp; done) | (simp; omega)) | refine Below.then ?_ hb8 (by first | omega | (simp; done) | (simp; omega)) | refine Below.then ?_ hb7 (by first | omega | (simp; done) | (simp; omega)) | refine Below.then ?_ hb6 (by first | omega | (simp; done) | (simp; omega)) | refine Below.then ?_ hb5 (by first | omega | (simp; done) | (simp; omega)) | refine Below.then ?_ hb4 (by first | omega | (simp; done) | (simp; omega)) | refine Below.then ?_ hb3 (by first | omega | (simp; done) | (simp; omega)) | refine Below.then ?_ hb2 (by first | omega | (simp; done) | (simp; omega)) | refine Below.then ?_ hb1 (by first | omega | (simp; done) | (simp; omega))))) (by first | omega | (simp; done) | (simp; omega))
    replace q2 := hold_cell (w2 := w4) q2 (by (repeat (first | exact Below.refl _ _ | (with_reducible assumption) | refine Below.drew ?_ | refine Below.drewN' ?_ _ | refine Below.alloc ?_ (by first | omega | (simp; done) | (simp; omega)) _ | refine Below.setCell ?_ (by first | omega | (simp; done) | (simp; omega)) _ | refine Below.then ?_ hb9 (by first | omega | (simp; done) | (simp; omega)) | refine Below.then ?_ hb8 (by first | omega | (simp; done) | (simp; omega)) | refine Below.then ?_ hb7 (by first | omega | (simp; done) | (simp; omega)) | refine Below.then ?_ hb6 (by first | omega | (simp; done) | (simp; omega)) | refine Below.then ?_ hb5 (by first | omega | (simp; done) | (simp; omega)) | refine Below.then ?_ hb4 (by first | omega | (simp; done) | (simp; omega)) | refine Below.then ?_ hb3 (by first | omega | (simp; done) | (simp; omega)) | refine Below.then ?_ hb2 (by first | omega | (simp; done) | (simp; omega)) | refine Below.then ?_ hb1 (by first | omega | (simp; done) | (simp; omega))))) (by first | omega | (simp; done) | (simp; omega))
    have l4 : w.heap.size < w4.heap.size := by first | omega | (simp; done) | (simp; omega)
    have hb04 := Below.then hb03 hb4 (by omega)
    go_wp2_with fail
    refine (WL.out _).mono ?_; rintro e5 w5 ⟨rfl, hb5⟩; have hz5 := hb5.size; (try simp at hz5)
    have hb05 := Below.then hb04 hb5 (by omega)
    go_wp2_with (first | (go_at_call 11; go_in) | (go_at_call 12; refine (WK.out _).mono ?_; rintro e6 w6 ⟨rfl, hb6⟩; have hz6 := hb6.size; (try simp at hz6)))
    go_ret
    exact ⟨rfl, Below.then hb05 hb6 (by omega)⟩
end Go.Proofs.Ytiodkcecpnomcaa
