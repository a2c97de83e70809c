/- The laws of layer 'object': where fields stand; the objects of words of a space. -/
import Derived.Test.YtiodkcecpnomcaaObjL
namespace Go.Proofs.Ytiodkcecpnomcaa
open Go.RowKit
set_option linter.unusedVariables false
set_option linter.unusedSimpArgs false

theorem i64_at {W : World} {a : Option Addr} {l : List Int} (h : IntsOf W a l) (k : Nat) (hk : k < l.length) : ∃ b o, a = some ⟨b, o, none⟩ ∧ b < W.heap.size ∧ W.cell? ⟨b, o + k, none⟩ = some (.int .i64 l[k]) := by
  rcases h with h | ⟨b, o, rfl, hb, hc⟩
  · have := congrArg List.length h
    rw [List.length_map, List.length_nil] at this
    omega
  · refine ⟨b, o, rfl, hb, ?_⟩
    have := hc k (by rw [List.length_map]; exact hk)
    rwa [List.getElem_map] at this
theorem arOf_nil (w : World) : Calls Try.prog 10 #[.slice none 0 0] w fun e w' => e = .returned (.tuple #[.pointer none, .int .i64 2]) ∧ Below w.heap.size w w' := by
  have HN := Lib.hid (fun W => arNew_bad 0 (.inl (by decide)) W)
  go_enter Try.func10, Try.ntmps10
  go_wp2_with fail
  refine (HN.out _).mono ?_; rintro e1 w1 ⟨rfl, hb1⟩; have hz1 := hb1.size; (try simp at hz1)
  go_wp2
  go_ret2
  exact ⟨rfl, by (repeat (first | exact Below.refl _ _ | (with_reducible assumption) | refine Below.drew ?_ | refine Below.drewN' ?_ _ | refine Below.alloc ?_ (by first | omega | (simp; done) | (simp; omega)) _ | refine Below.setCell ?_ (by first | omega | (simp; done) | (simp; omega)) _ | refine Below.then ?_ hb9 (by first | omega | (simp; done) | (simp; omega)) | refine Below.then ?_ hb8 (by first | omega | (simp; done) | (simp; omega)) | refine Below.then ?_ hb7 (by first | omega | (simp; done) | (simp; omega)) | refine Below.then ?_ hb6 (by first | omega | (simp; done) | (simp; omega)) | refine Below.then ?_ hb5 (by first | omega | (simp; done) | (simp; omega)) | refine Below.then ?_ hb4 (by first | omega | (simp; done) | (simp; omega)) | refine Below.then ?_ hb3 (by first | omega | (simp; done) | (simp; omega)) | refine Below.then ?_ hb2 (by first | omega | (simp; done) | (simp; omega)) | refine Below.then ?_ hb1 (by first | omega | (simp; done) | (simp; omega))))⟩

set_option maxRecDepth 1000000 in
set_option maxHeartbeats 6400000 in
theorem objectPlace_walk (w : World) (t : Int) (_wt : (Lit.int .i64 t).wf = true) (sp : Int) (_wsp : (Lit.int .i64 sp).wf = true) (a : Option Addr) (c : Nat) (ss : List ByteArray) (hnc : ss.length ≤ maxLen ∧ ss.length ≤ c) (h : SlOf w a (strV ss)) (hs : ∀ s ∈ ss, s.size ≤ maxLen)
    (wa : Option Addr) (wc : Nat) (ws : List Int) (hwc : ws.length ≤ maxLen ∧ ws.length ≤ wc ∧ (wa = none → wc = 0)) (hw : WdsOf w wa ws) (hwr : ∀ z ∈ ws, (Lit.int .u64 z).wf = true) (more : Int) (_wm : (Lit.int .i64 more).wf = true) (at_ : Int) (_wat : (Lit.int .i64 at_).wf = true) (f : Int) (_wf : (Lit.int .i64 f).wf = true) :
    Calls Try.prog 3 #[.agg #[.int .i64 t, .int .i64 sp, .slice a ss.length c, .slice wa ws.length wc, .int .i64 more], .int .i64 at_, .int .i64 f] w fun e w' => e = .returned (.bool true) ∧ Below w.heap.size w w' := by
  have HL := Lib.hid (show LIn w a c ss wa wc ws from ⟨fit_of hnc hs, h, fun e => by have := hwc.2.2 e; omega, fun z hz => wf_u64 (hwr z hz), hw⟩)
  have WK := Lib.hid (fun W => works7_calls W)
  clear h hs hw hwr hwc hnc
  cases hm : madeB t sp ss ws.length more with
  | false =>
    have MN := fun W (h : LIn W a c ss wa wc ws) => made_no t sp a c ss wa wc ws.length more hm h.fit W h.sh
    unfold heapA at MN
    have MN := Lib.hid MN
    have ON := Lib.hid (fun W => arOf_nil W)
    clear hm
    go_enter Try.func3, Try.ntmps3
    go_wp2_with fail
    refine (MN.out _ (HL.out.alloc _)).mono ?_; rintro e1 w1 ⟨rfl, hb1⟩; have hz1 := hb1.size; (try simp at hz1)
    go_wp2_with fail
    refine (ON.out _).mono ?_; rintro e2 w2 ⟨rfl, hb2⟩; have hz2 := hb2.size; (try simp at hz2)
    go_wp2_with (first | (go_at_call 11; go_in) | (go_at_call 12; refine (WK.out _).mono ?_; rintro e3 w3 ⟨rfl, hb3⟩; have hz3 := hb3.size; (try simp at hz3)))
    go_ret
    exact ⟨rfl, by (repeat (first | exact Below.refl _ _ | (with_reducible assumption) | refine Below.drew ?_ | refine Below.drewN' ?_ _ | refine Below.alloc ?_ (by first | omega | (simp; done) | (simp; omega)) _ | refine Below.setCell ?_ (by first | omega | (simp; done) | (simp; omega)) _ | refine Below.then ?_ hb9 (by first | omega | (simp; done) | (simp; omega)) | refine Below.then ?_ hb8 (by first | omega | (simp; done) | (simp; omega)) | refine Below.then ?_ hb7 (by first | omega | (simp; done) | (simp; omega)) | refine Below.then ?_ hb6 (by first | omega | (simp; done) | (simp; omega)) | refine Below.then ?_ hb5 (by first | omega | (simp; done) | (simp; omega)) | refine Below.then ?_ hb4 (by first | omega | (simp; done) | (simp; omega)) | refine Below.then ?_ hb3 (by first | omega | (simp; done) | (simp; omega)) | refine Below.then ?_ hb2 (by first | omega | (simp; done) | (simp; omega)) | refine Below.then ?_ hb1 (by first | omega | (simp; done) | (simp; omega))))⟩
  | true =>
    have MO := fun W (h : LIn W a c ss wa wc ws) => made_ok t sp a c ss wa wc ws more hm h.fit h.wn h.rng W h.sh h.wds
    obtain ⟨hp, hLn, hL66, hLr⟩ : planB t sp ss = true ∧ (padTo ws (madeN t sp more)).length = madeN t sp more ∧ (66 ≤ madeN t sp more ∧ madeN t sp more ≤ 222) ∧ ∀ x ∈ padTo ws (madeN t sp more), 0 ≤ x ∧ x < 18446744073709551616 := by
      unfold madeB at hm
      simp only [Bool.and_eq_true, decide_eq_true_eq] at hm
      obtain ⟨⟨⟨⟨hp, h1⟩, h2⟩, h3⟩, h4⟩ := hm
      obtain ⟨b1, b2, b3, b4, _⟩ := plan_ok hp
      exact ⟨hp, padTo_len _ _, by unfold madeN; omega, padTo_rng HL.out.rng⟩
    generalize padTo ws (madeN t sp more) = L at MO hLn hLr
    generalize madeN t sp more = N at MO hL66 hLn
    subst hLn
    have hN0 : ((L.length : Int) == 0) = false := beq_eq_false_iff_ne.2 (by omega)
    unfold heapA at MO
    have MO := Lib.hid MO
    have OF := Lib.hid (fun g W h => arOf_calls (some ⟨g, 0, none⟩) L.length L (by omega) (by omega) hLr W h)
    have RI := Lib.hid (fun g W (hl : LIn W a c ss wa wc ws) hw => (⟨hLr, by omega, hl.fit, hw, hl.sh⟩ : RIn W (some ⟨g, 0, none⟩) L a ss))
    have HN := Lib.hid HL.out.fit.1
    have PC := Lib.hid (fun p b W ha hs => place_calls p b L t sp a c ss at_ f HN.out W ha hs)
    have PR := Lib.hid (fun g W hr => r7Place_calls (some ⟨g, 0, none⟩) L.length L t sp a c ss at_ f W hr)
    clear hm hLr
    go_enter Try.func3, Try.ntmps3
    go_wp2_with fail
    refine (MO.out _ (HL.out.alloc _)).mono ?_
    rintro e1 w1 ⟨g1, rfl, hw1, hb1⟩
    have HL1 := Lib.hid ((HL.out.alloc _).below hb1)
    obtain ⟨hc1, hf1⟩ := bcell hb1
    have hz1 := hb1.size
    (try simp at hz1)
    have q0 := hc1 w.heap.size 0 (by first | omega | (simp; done) | (simp; omega)); simp [go_sem] at q0
    have q1 := hc1 w.heap.size 1 (by first | omega | (simp; done) | (simp; omega)); simp [go_sem] at q1
    have q2 := hc1 w.heap.size 2 (by first | omega | (simp; done) | (simp; omega)); simp [go_sem] at q2
    have q3 := hc1 w.heap.size 3 (by first | omega | (simp; done) | (simp; omega)); simp [go_sem] at q3
    have q4 := hc1 w.heap.size 4 (by first | omega | (simp; done) | (simp; omega)); simp [go_sem] at q4
    have hb01 : Below w.heap.size w w1 := by (repeat (first | exact Below.refl _ _ | (with_reducible assumption) | refine Below.drew ?_ | refine Below.drewN' ?_ _ | refine Below.alloc ?_ (by first | omega | (simp; done) | (simp; omega)) _ | refine Below.setCell ?_ (by first | omega | (simp; done) | (simp; omega)) _ | refine Below.then ?_ hb9 (by first | omega | (simp; done) | (simp; omega)) | refine Below.then ?_ hb8 (by first | omega | (simp; done) | (simp; omega)) | refine Below.then ?_ hb7 (by first | omega | (simp; done) | (simp; omega)) | refine Below.then ?_ hb6 (by first | omega | (simp; done) | (simp; omega)) | refine Below.then ?_ hb5 (by first | omega | (simp; done) | (simp; omega)) | refine Below.then ?_ hb4 (by first | omega | (simp; done) | (simp; omega)) | refine Below.then ?_ hb3 (by first | omega | (simp; done) | (simp; omega)) | refine Below.then ?_ hb2 (by first | omega | (simp; done) | (simp; omega)) | refine Below.then ?_ hb1 (by first | omega | (simp; done) | (simp; omega))))
    clear hc1 hf1 hb1
    go_wp2_with fail
    refine (OF.out g1 _ hw1).mono ?_
    rintro e2 w2 ⟨rfl, ha2, hb2⟩
    have hz2 := hb2.size
    have HL2 := Lib.hid (HL1.out.below hb2)
    have HR2 := Lib.hid (RI.out g1 w2 HL2.out (SlOf.below hw1 hb2))
    have HA2 := Lib.hid ha2
    replace q0 := hold_cell (w2 := w2) q0 (by (repeat (first | exact Below.refl _ _ | (with_reducible assumption) | refine Below.drew ?_ | refine Below.drewN' ?_ _ | refine Below.alloc ?_ (by first | omega | (simp; done) | (simp; omega)) _ | refine Below.setCell ?_ (by first | omega | (simp; done) | (simp; omega)) _ | refine Below.then ?_ hb9 (by first | omega | (simp; done) | (simp; omega)) | refine Below.then ?_ hb8 (by first | omega | (simp; done) | (simp; omega)) | refine Below.then ?_ hb7 (by first | omega | (simp; done) | (simp; omega)) | refine Below.then ?_ hb6 (by first | omega | (simp; done) | (simp; omega)) | refine Below.then ?_ hb5 (by first | omega | (simp; done) | (simp; omega)) | refine Below.then ?_ hb4 (by first | omega | (simp; done) | (simp; omega)) | refine Below.then ?_ hb3 (by first | omega | (simp; done) | (simp; omega)) | refine Below.then ?_ hb2 (by first | omega | (simp; done) | (simp; omega)) | refine Below.then ?_ hb1 (by first | omega | (simp; done) | (simp; omega))))) (by first | omega | (simp; done) | (simp; omega))
    replace q1 := hold_cell (w2 := w2) q1 (by (repeat (first | exact Below.refl _ _ | (with_reducible assumption) | refine Below.drew ?_ | refine Below.drewN' ?_ _ | refine Below.alloc ?_ (by first | omega | (simp; done) | (simp; omega)) _ | refine Below.setCell ?_ (by first | omega | (simp; done) | (simp; omega)) _ | refine Below.then ?_ hb9 (by first | omega | (simp; done) | (simp; omega)) | refine Below.then ?_ hb8 (by first | omega | (simp; done) | (simp; omega)) | refine Below.then ?_ hb7 (by first | omega | (simp; done) | (simp; omega)) | refine Below.then ?_ hb6 (by first | omega | (simp; done) | (simp; omega)) | refine Below.then ?_ hb5 (by first | omega | (simp; done) | (simp; omega)) | refine Below.then ?_ hb4 (by first | omega | (simp; done) | (simp; omega)) | refine Below.then ?_ hb3 (by first | omega | (simp; done) | (simp; omega)) | refine Below.then ?_ hb2 (by first | omega | (simp; done) | (simp; omega)) | refine Below.then ?_ hb1 (by first | omega | (simp; done) | (simp; omega))))) (by first | omega | (simp; done) | (simp; omega))
    replace q2 := hold_cell (w2 := w2) q2 (by (repeat (first | exact Below.refl _ _ | (with_reducible assumption) | refine Below.drew ?_ | refine Below.drewN' ?_ _ | refine Below.alloc ?_ (by first | omega | (simp; done) | (simp; omega)) _ | refine Below.setCell ?_ (by first | omega | (simp; done) | (simp; omega)) _ | refine Below.then ?_ hb9 (by first | omega | (simp; done) | (simp; omega)) | refine Below.then ?_ hb8 (by first | omega | (simp; done) | (simp; omega)) | refine Below.then ?_ hb7 (by first | omega | (simp; done) | (simp; omega)) | refine Below.then ?_ hb6 (by first | omega | (simp; done) | (simp; omega)) | refine Below.then ?_ hb5 (by first | omega | (simp; done) | (simp; omega)) | refine Below.then ?_ hb4 (by first | omega | (simp; done) | (simp; omega)) | refine Below.then ?_ hb3 (by first | omega | (simp; done) | (simp; omega)) | refine Below.then ?_ hb2 (by first | omega | (simp; done) | (simp; omega)) | refine Below.then ?_ hb1 (by first | omega | (simp; done) | (simp; omega))))) (by first | omega | (simp; done) | (simp; omega))
    replace q3 := hold_cell (w2 := w2) q3 (by (repeat (first | exact Below.refl _ _ | (with_reducible assumption) | refine Below.drew ?_ | refine Below.drewN' ?_ _ | refine Below.alloc ?_ (by first | omega | (simp; done) | (simp; omega)) _ | refine Below.setCell ?_ (by first | omega | (simp; done) | (simp; omega)) _ | refine Below.then ?_ hb9 (by first | omega | (simp; done) | (simp; omega)) | refine Below.then ?_ hb8 (by first | omega | (simp; done) | (simp; omega)) | refine Below.then ?_ hb7 (by first | omega | (simp; done) | (simp; omega)) | refine Below.then ?_ hb6 (by first | omega | (simp; done) | (simp; omega)) | refine Below.then ?_ hb5 (by first | omega | (simp; done) | (simp; omega)) | refine Below.then ?_ hb4 (by first | omega | (simp; done) | (simp; omega)) | refine Below.then ?_ hb3 (by first | omega | (simp; done) | (simp; omega)) | refine Below.then ?_ hb2 (by first | omega | (simp; done) | (simp; omega)) | refine Below.then ?_ hb1 (by first | omega | (simp; done) | (simp; omega))))) (by first | omega | (simp; done) | (simp; omega))
    replace q4 := hold_cell (w2 := w2) q4 (by (repeat (first | exact Below.refl _ _ | (with_reducible assumption) | refine Below.drew ?_ | refine Below.drewN' ?_ _ | refine Below.alloc ?_ (by first | omega | (simp; done) | (simp; omega)) _ | refine Below.setCell ?_ (by first | omega | (simp; done) | (simp; omega)) _ | refine Below.then ?_ hb9 (by first | omega | (simp; done) | (simp; omega)) | refine Below.then ?_ hb8 (by first | omega | (simp; done) | (simp; omega)) | refine Below.then ?_ hb7 (by first | omega | (simp; done) | (simp; omega)) | refine Below.then ?_ hb6 (by first | omega | (simp; done) | (simp; omega)) | refine Below.then ?_ hb5 (by first | omega | (simp; done) | (simp; omega)) | refine Below.then ?_ hb4 (by first | omega | (simp; done) | (simp; omega)) | refine Below.then ?_ hb3 (by first | omega | (simp; done) | (simp; omega)) | refine Below.then ?_ hb2 (by first | omega | (simp; done) | (simp; omega)) | refine Below.then ?_ hb1 (by first | omega | (simp; done) | (simp; omega))))) (by first | omega | (simp; done) | (simp; omega))
    have l2 : w.heap.size < w2.heap.size := by first | omega | (simp; done) | (simp; omega)
    have hb02 : Below w.heap.size w w2 := Below.then hb01 hb2 (by omega)
    clear ha2 hw1 hb2 HL1
    go_wp2_with (go_at_call 11; go_in)
    refine (PC.out _ _ _ HA2.out HL2.out.sh).mono ?_; rintro e3 w3 ⟨rfl, hb3⟩; have hz3 := hb3.size; (try simp at hz3)
    replace q0 := hold_cell (w2 := w3) q0 (by (repeat (first | exact Below.refl _ _ | (with_reducible assumption) | refine Below.drew ?_ | refine Below.drewN' ?_ _ | refine Below.alloc ?_ (by first | omega | (simp; done) | (simp; omega)) _ | refine Below.setCell ?_ (by first | omega | (simp; done) | (simp; omega)) _ | refine Below.then ?_ hb9 (by first | omega | (simp; done) | (simp; omega)) | refine Below.then ?_ hb8 (by first | omega | (simp; done) | (simp; omega)) | refine Below.then ?_ hb7 (by first | omega | (simp; done) | (simp; omega)) | refine Below.then ?_ hb6 (by first | omega | (simp; done) | (simp; omega)) | refine Below.then ?_ hb5 (by first | omega | (simp; done) | (simp; omega)) | refine Below.then ?_ hb4 (by first | omega | (simp; done) | (simp; omega)) | refine Below.then ?_ hb3 (by first | omega | (simp; done) | (simp; omega)) | refine Below.then ?_ hb2 (by first | omega | (simp; done) | (simp; omega)) | refine Below.then ?_ hb1 (by first | omega | (simp; done) | (simp; omega))))) (by first | omega | (simp; done) | (simp; omega))
    replace q1 := hold_cell (w2 := w3) q1 (by (repeat (first | exact Below.refl _ _ | (with_reducible assumption) | refine Below.drew ?_ | refine Below.drewN' ?_ _ | refine Below.alloc ?_ (by first | omega | (simp; done) | (simp; omega)) _ | refine Below.setCell ?_ (by first | omega | (simp; done) | (simp; omega)) _ | refine Below.then ?_ hb9 (by first | omega | (simp; done) | (simp; omega)) | refine Below.then ?_ hb8 (by first | omega | (simp; done) | (simp; omega)) | refine Below.then ?_ hb7 (by first | omega | (simp; done) | (simp; omega)) | refine Below.then ?_ hb6 (by first | omega | (simp; done) | (simp; omega)) | refine Below.then ?_ hb5 (by first | omega | (simp; done) | (simp; omega)) | refine Below.then ?_ hb4 (by first | omega | (simp; done) | (simp; omega)) | refine Below.then ?_ hb3 (by first | omega | (simp; done) | (simp; omega)) | refine Below.then ?_ hb2 (by first | omega | (simp; done) | (simp; omega)) | refine Below.then ?_ hb1 (by first | omega | (simp; done) | (simp; omega))))) (by first | omega | (simp; done) | (simp; omega))
    replace q2 := hold_cell (w2 := w3) q2 (by (repeat (first | exact Below.refl _ _ | (with_reducible assumption) | refine Below.drew ?_ | refine Below.drewN' ?_ _ | refine Below.alloc ?_ (by first | omega | (simp; done) | (simp; omega)) _ | refine Below.setCell ?_ (by first | omega | (simp; done) | (simp; omega)) _ | refine Below.then ?_ hb9 (by first | omega | (simp; done) | (simp; omega)) | refine Below.then ?_ hb8 (by first | omega | (simp; done) | (simp; omega)) | refine Below.then ?_ hb7 (by first | omega | (simp; done) | (simp; omega)) | refine Below.then ?_ hb6 (by first | omega | (simp; done) | (simp; omega)) | refine Below.then ?_ hb5 (by first | omega | (simp; done) | (simp; omega)) | refine Below.then ?_ hb4 (by first | omega | (simp; done) | (simp; omega)) | refine Below.then ?_ hb3 (by first | omega | (simp; done) | (simp; omega)) | refine Below.then ?_ hb2 (by first | omega | (simp; done) | (simp; omega)) | refine Below.then ?_ hb1 (by first | omega | (simp; done) | (simp; omega))))) (by first | omega | (simp; done) | (simp; omega))
    have l3 : w.heap.size < w3.heap.size := by first | omega | (simp; done) | (simp; omega)
    have hb03 : Below w.heap.size w w3 := Below.then hb02 hb3 (by omega)
    go_wp2_with fail
    refine (PR.out _ _ (HR2.out.below hb3)).mono ?_; rintro e4 w4 ⟨rfl, hb4⟩; have hz4 := hb4.size; (try simp at hz4)
    have hb04 : Below w.heap.size w w4 := Below.then hb03 hb4 (by omega)
    go_wp2_with (first | (go_at_call 11; go_in) | (go_at_call 12; refine (WK.out _).mono ?_; rintro e5 w5 ⟨rfl, hb5⟩; have hz5 := hb5.size; (try simp at hz5)))
    go_ret
    exact ⟨rfl, Below.then hb04 hb5 (by omega)⟩

set_option maxRecDepth 1000000 in
set_option maxHeartbeats 6400000 in
theorem objectWalk_walk (w : World) (t : Int) (_wt : (Lit.int .i64 t).wf = true) (sp : Int) (_wsp : (Lit.int .i64 sp).wf = true) (a : Option Addr) (c : Nat) (ss : List ByteArray) (hnc : ss.length ≤ maxLen ∧ ss.length ≤ c) (h : SlOf w a (strV ss)) (hs : ∀ s ∈ ss, s.size ≤ maxLen)
    (wa : Option Addr) (wc : Nat) (ws : List Int) (hwc : ws.length ≤ maxLen ∧ ws.length ≤ wc ∧ (wa = none → wc = 0)) (hw : WdsOf w wa ws) (hwr : ∀ z ∈ ws, (Lit.int .u64 z).wf = true) (more : Int) (_wm : (Lit.int .i64 more).wf = true) (s : Int) (_ws : (Lit.int .i64 s).wf = true) (f : Int) (_wf : (Lit.int .i64 f).wf = true) (u : Int) (_wu : (Lit.int .i64 u).wf = true) :
    Calls Try.prog 4 #[.agg #[.int .i64 t, .int .i64 sp, .slice a ss.length c, .slice wa ws.length wc, .int .i64 more], .int .i64 s, .int .i64 f, .int .i64 u] w fun e w' => e = .returned (.bool true) ∧ Below w.heap.size w w' := by
  have HL := Lib.hid (show LIn w a c ss wa wc ws from ⟨fit_of hnc hs, h, fun e => by have := hwc.2.2 e; omega, fun z hz => wf_u64 (hwr z hz), hw⟩)
  have WK := Lib.hid (fun W => works7_calls W)
  clear h hs hw hwr hwc hnc
  cases hm : madeB t sp ss ws.length more with
  | false =>
    have MN := fun W (h : LIn W a c ss wa wc ws) => made_no t sp a c ss wa wc ws.length more hm h.fit W h.sh
    unfold heapA at MN
    have MN := Lib.hid MN
    have ON := Lib.hid (fun W => arOf_nil W)
    clear hm
    go_enter Try.func4, Try.ntmps4
    go_wp2_with fail
    refine (MN.out _ (HL.out.alloc _)).mono ?_; rintro e1 w1 ⟨rfl, hb1⟩; have hz1 := hb1.size; (try simp at hz1)
    go_wp2_with fail
    refine (ON.out _).mono ?_; rintro e2 w2 ⟨rfl, hb2⟩; have hz2 := hb2.size; (try simp at hz2)
    go_wp2_with (first | (go_at_call 11; go_in) | (go_at_call 12; refine (WK.out _).mono ?_; rintro e3 w3 ⟨rfl, hb3⟩; have hz3 := hb3.size; (try simp at hz3)))
    go_ret
    exact ⟨rfl, by (repeat (first | exact Below.refl _ _ | (with_reducible assumption) | refine Below.drew ?_ | refine Below.drewN' ?_ _ | refine Below.alloc ?_ (by first | omega | (simp; done) | (simp; omega)) _ | refine Below.setCell ?_ (by first | omega | (simp; done) | (simp; omega)) _ | refine Below.then ?_ hb9 (by first | omega | (simp; done) | (simp; omega)) | refine Below.then ?_ hb8 (by first | omega | (simp; done) | (simp; omega)) | refine Below.then ?_ hb7 (by first | omega | (simp; done) | (simp; omega)) | refine Below.then ?_ hb6 (by first | omega | (simp; done) | (simp; omega)) | refine Below.then ?_ hb5 (by first | omega | (simp; done) | (simp; omega)) | refine Below.then ?_ hb4 (by first | omega | (simp; done) | (simp; omega)) | refine Below.then ?_ hb3 (by first | omega | (simp; done) | (simp; omega)) | refine Below.then ?_ hb2 (by first | omega | (simp; done) | (simp; omega)) | refine Below.then ?_ hb1 (by first | omega | (simp; done) | (simp; omega))))⟩
  | true =>
    have MO := fun W (h : LIn W a c ss wa wc ws) => made_ok t sp a c ss wa wc ws more hm h.fit h.wn h.rng W h.sh h.wds
    obtain ⟨hp, hLn, hL66, hLr⟩ : planB t sp ss = true ∧ (padTo ws (madeN t sp more)).length = madeN t sp more ∧ (66 ≤ madeN t sp more ∧ madeN t sp more ≤ 222) ∧ ∀ x ∈ padTo ws (madeN t sp more), 0 ≤ x ∧ x < 18446744073709551616 := by
      unfold madeB at hm
      simp only [Bool.and_eq_true, decide_eq_true_eq] at hm
      obtain ⟨⟨⟨⟨hp, h1⟩, h2⟩, h3⟩, h4⟩ := hm
      obtain ⟨b1, b2, b3, b4, _⟩ := plan_ok hp
      exact ⟨hp, padTo_len _ _, by unfold madeN; omega, padTo_rng HL.out.rng⟩
    generalize padTo ws (madeN t sp more) = L at MO hLn hLr
    generalize madeN t sp more = N at MO hL66 hLn
    subst hLn
    have hN0 : ((L.length : Int) == 0) = false := beq_eq_false_iff_ne.2 (by omega)
    unfold heapA at MO
    have MO := Lib.hid MO
    have OF := Lib.hid (fun g W h => arOf_calls (some ⟨g, 0, none⟩) L.length L (by omega) (by omega) hLr W h)
    have RI := Lib.hid (fun g W (hl : LIn W a c ss wa wc ws) hw => (⟨hLr, by omega, hl.fit, hw, hl.sh⟩ : RIn W (some ⟨g, 0, none⟩) L a ss))
    have HN := Lib.hid HL.out.fit.1
    have PC := fun p b W ha hs => walk_calls p b L t sp a c ss s f u HN.out W ha hs
    have PR := fun g W hr => r7Walk_calls (some ⟨g, 0, none⟩) L.length L t sp a c ss s f u W hr
    unfold WalkPost at PC PR
    have hMl : (walkR t sp ss L s f u).length ≤ 4096 := by
      unfold walkR
      split
      · rename_i h0
        have hb : walkB sp s f u = true := by
          unfold walkE at h0
          by_cases h1 : rightP t sp ss L.length = true
          · rw [if_pos h1] at h0
            by_cases h2 : walkB sp s f u = true
            · exact h2
            · rw [if_neg h2] at h0; cases h0
          · rw [if_neg h1] at h0; cases h0
        unfold walkB at hb
        simp only [Bool.and_eq_true, decide_eq_true_eq] at hb
        obtain ⟨b1, b2, b3, b4, _⟩ := plan_ok hp
        have : (walkL t sp ss L (3 + 2 * t + s * sp + u) (3 + 2 * t + s * sp + f)).length ≤ ((3 + 2 * t + s * sp + u) - (3 + 2 * t + s * sp + f)).toNat := walkL_len _ _
        omega
      · simp
    generalize walkR t sp ss L s f u = M at PC PR hMl
    generalize walkE t sp ss L.length s f u = ee at PC PR
    have PC := Lib.hid PC
    have PR := Lib.hid PR
    clear hm hLr
    go_enter Try.func4, Try.ntmps4
    go_wp2_with fail
    refine (MO.out _ (HL.out.alloc _)).mono ?_
    rintro e1 w1 ⟨g1, rfl, hw1, hb1⟩
    have HL1 := Lib.hid ((HL.out.alloc _).below hb1)
    obtain ⟨hc1, hf1⟩ := bcell hb1
    have hz1 := hb1.size
    (try simp at hz1)
    have q0 := hc1 w.heap.size 0 (by first | omega | (simp; done) | (simp; omega)); simp [go_sem] at q0
    have q1 := hc1 w.heap.size 1 (by first | omega | (simp; done) | (simp; omega)); simp [go_sem] at q1
    have q2 := hc1 w.heap.size 2 (by first | omega | (simp; done) | (simp; omega)); simp [go_sem] at q2
    have q3 := hc1 w.heap.size 3 (by first | omega | (simp; done) | (simp; omega)); simp [go_sem] at q3
    have q4 := hc1 w.heap.size 4 (by first | omega | (simp; done) | (simp; omega)); simp [go_sem] at q4
    have hb01 : Below w.heap.size w w1 := by (repeat (first | exact Below.refl _ _ | (with_reducible assumption) | refine Below.drew ?_ | refine Below.drewN' ?_ _ | refine Below.alloc ?_ (by first | omega | (simp; done) | (simp; omega)) _ | refine Below.setCell ?_ (by first | omega | (simp; done) | (simp; omega)) _ | refine Below.then ?_ hb9 (by first | omega | (simp; done) | (simp; omega)) | refine Below.then ?_ hb8 (by first | omega | (simp; done) | (simp; omega)) | refine Below.then ?_ hb7 (by first | omega | (simp; done) | (simp; omega)) | refine Below.then ?_ hb6 (by first | omega | (simp; done) | (simp; omega)) | refine Below.then ?_ hb5 (by first | omega | (simp; done) | (simp; omega)) | refine Below.then ?_ hb4 (by first | omega | (simp; done) | (simp; omega)) | refine Below.then ?_ hb3 (by first | omega | (simp; done) | (simp; omega)) | refine Below.then ?_ hb2 (by first | omega | (simp; done) | (simp; omega)) | refine Below.then ?_ hb1 (by first | omega | (simp; done) | (simp; omega))))
    clear hc1 hf1 hb1
    go_wp2_with fail
    refine (OF.out g1 _ hw1).mono ?_
    rintro e2 w2 ⟨rfl, ha2, hb2⟩
    have hz2 := hb2.size
    have HL2 := Lib.hid (HL1.out.below hb2)
    have HR2 := Lib.hid (RI.out g1 w2 HL2.out (SlOf.below hw1 hb2))
    have HA2 := Lib.hid ha2
    replace q0 := hold_cell (w2 := w2) q0 (by (repeat (first | exact Below.refl _ _ | (with_reducible assumption) | refine Below.drew ?_ | refine Below.drewN' ?_ _ | refine Below.alloc ?_ (by first | omega | (simp; done) | (simp; omega)) _ | refine Below.setCell ?_ (by first | omega | (simp; done) | (simp; omega)) _ | refine Below.then ?_ hb9 (by first | omega | (simp; done) | (simp; omega)) | refine Below.then ?_ hb8 (by first | omega | (simp; done) | (simp; omega)) | refine Below.then ?_ hb7 (by first | omega | (simp; done) | (simp; omega)) | refine Below.then ?_ hb6 (by first | omega | (simp; done) | (simp; omega)) | refine Below.then ?_ hb5 (by first | omega | (simp; done) | (simp; omega)) | refine Below.then ?_ hb4 (by first | omega | (simp; done) | (simp; omega)) | refine Below.then ?_ hb3 (by first | omega | (simp; done) | (simp; omega)) | refine Below.then ?_ hb2 (by first | omega | (simp; done) | (simp; omega)) | refine Below.then ?_ hb1 (by first | omega | (simp; done) | (simp; omega))))) (by first | omega | (simp; done) | (simp; omega))
    replace q1 := hold_cell (w2 := w2) q1 (by (repeat (first | exact Below.refl _ _ | (with_reducible assumption) | refine Below.drew ?_ | refine Below.drewN' ?_ _ | refine Below.alloc ?_ (by first | omega | (simp; done) | (simp; omega)) _ | refine Below.setCell ?_ (by first | omega | (simp; done) | (simp; omega)) _ | refine Below.then ?_ hb9 (by first | omega | (simp; done) | (simp; omega)) | refine Below.then ?_ hb8 (by first | omega | (simp; done) | (simp; omega)) | refine Below.then ?_ hb7 (by first | omega | (simp; done) | (simp; omega)) | refine Below.then ?_ hb6 (by first | omega | (simp; done) | (simp; omega)) | refine Below.then ?_ hb5 (by first | omega | (simp; done) | (simp; omega)) | refine Below.then ?_ hb4 (by first | omega | (simp; done) | (simp; omega)) | refine Below.then ?_ hb3 (by first | omega | (simp; done) | (simp; omega)) | refine Below.then ?_ hb2 (by first | omega | (simp; done) | (simp; omega)) | refine Below.then ?_ hb1 (by first | omega | (simp; done) | (simp; omega))))) (by first | omega | (simp; done) | (simp; omega))
    replace q2 := hold_cell (w2 := w2) q2 (by (repeat (first | exact Below.refl _ _ | (with_reducible assumption) | refine Below.drew ?_ | refine Below.drewN' ?_ _ | refine Below.alloc ?_ (by first | omega | (simp; done) | (simp; omega)) _ | refine Below.setCell ?_ (by first | omega | (simp; done) | (simp; omega)) _ | refine Below.then ?_ hb9 (by first | omega | (simp; done) | (simp; omega)) | refine Below.then ?_ hb8 (by first | omega | (simp; done) | (simp; omega)) | refine Below.then ?_ hb7 (by first | omega | (simp; done) | (simp; omega)) | refine Below.then ?_ hb6 (by first | omega | (simp; done) | (simp; omega)) | refine Below.then ?_ hb5 (by first | omega | (simp; done) | (simp; omega)) | refine Below.then ?_ hb4 (by first | omega | (simp; done) | (simp; omega)) | refine Below.then ?_ hb3 (by first | omega | (simp; done) | (simp; omega)) | refine Below.then ?_ hb2 (by first | omega | (simp; done) | (simp; omega)) | refine Below.then ?_ hb1 (by first | omega | (simp; done) | (simp; omega))))) (by first | omega | (simp; done) | (simp; omega))
    replace q3 := hold_cell (w2 := w2) q3 (by (repeat (first | exact Below.refl _ _ | (with_reducible assumption) | refine Below.drew ?_ | refine Below.drewN' ?_ _ | refine Below.alloc ?_ (by first | omega | (simp; done) | (simp; omega)) _ | refine Below.setCell ?_ (by first | omega | (simp; done) | (simp; omega)) _ | refine Below.then ?_ hb9 (by first | omega | (simp; done) | (simp; omega)) | refine Below.then ?_ hb8 (by first | omega | (simp; done) | (simp; omega)) | refine Below.then ?_ hb7 (by first | omega | (simp; done) | (simp; omega)) | refine Below.then ?_ hb6 (by first | omega | (simp; done) | (simp; omega)) | refine Below.then ?_ hb5 (by first | omega | (simp; done) | (simp; omega)) | refine Below.then ?_ hb4 (by first | omega | (simp; done) | (simp; omega)) | refine Below.then ?_ hb3 (by first | omega | (simp; done) | (simp; omega)) | refine Below.then ?_ hb2 (by first | omega | (simp; done) | (simp; omega)) | refine Below.then ?_ hb1 (by first | omega | (simp; done) | (simp; omega))))) (by first | omega | (simp; done) | (simp; omega))
    replace q4 := hold_cell (w2 := w2) q4 (by (repeat (first | exact Below.refl _ _ | (with_reducible assumption) | refine Below.drew ?_ | refine Below.drewN' ?_ _ | refine Below.alloc ?_ (by first | omega | (simp; done) | (simp; omega)) _ | refine Below.setCell ?_ (by first | omega | (simp; done) | (simp; omega)) _ | refine Below.then ?_ hb9 (by first | omega | (simp; done) | (simp; omega)) | refine Below.then ?_ hb8 (by first | omega | (simp; done) | (simp; omega)) | refine Below.then ?_ hb7 (by first | omega | (simp; done) | (simp; omega)) | refine Below.then ?_ hb6 (by first | omega | (simp; done) | (simp; omega)) | refine Below.then ?_ hb5 (by first | omega | (simp; done) | (simp; omega)) | refine Below.then ?_ hb4 (by first | omega | (simp; done) | (simp; omega)) | refine Below.then ?_ hb3 (by first | omega | (simp; done) | (simp; omega)) | refine Below.then ?_ hb2 (by first | omega | (simp; done) | (simp; omega)) | refine Below.then ?_ hb1 (by first | omega | (simp; done) | (simp; omega))))) (by first | omega | (simp; done) | (simp; omega))
    have l2 : w.heap.size < w2.heap.size := by first | omega | (simp; done) | (simp; omega)
    have hb02 : Below w.heap.size w w2 := Below.then hb01 hb2 (by omega)
    clear ha2 hw1 hb2 HL1
    go_wp2_with (go_at_call 11; go_in)
    refine (PC.out _ _ _ HA2.out HL2.out.sh).mono ?_
    rintro e3 w3 ⟨fa3, fc3, rfl, hw3, hb3⟩
    have hz3 := hb3.size
    replace q0 := hold_cell (w2 := w3) q0 (by (repeat (first | exact Below.refl _ _ | (with_reducible assumption) | refine Below.drew ?_ | refine Below.drewN' ?_ _ | refine Below.alloc ?_ (by first | omega | (simp; done) | (simp; omega)) _ | refine Below.setCell ?_ (by first | omega | (simp; done) | (simp; omega)) _ | refine Below.then ?_ hb9 (by first | omega | (simp; done) | (simp; omega)) | refine Below.then ?_ hb8 (by first | omega | (simp; done) | (simp; omega)) | refine Below.then ?_ hb7 (by first | omega | (simp; done) | (simp; omega)) | refine Below.then ?_ hb6 (by first | omega | (simp; done) | (simp; omega)) | refine Below.then ?_ hb5 (by first | omega | (simp; done) | (simp; omega)) | refine Below.then ?_ hb4 (by first | omega | (simp; done) | (simp; omega)) | refine Below.then ?_ hb3 (by first | omega | (simp; done) | (simp; omega)) | refine Below.then ?_ hb2 (by first | omega | (simp; done) | (simp; omega)) | refine Below.then ?_ hb1 (by first | omega | (simp; done) | (simp; omega))))) (by first | omega | (simp; done) | (simp; omega))
    replace q1 := hold_cell (w2 := w3) q1 (by (repeat (first | exact Below.refl _ _ | (with_reducible assumption) | refine Below.drew ?_ | refine Below.drewN' ?_ _ | refine Below.alloc ?_ (by first | omega | (simp; done) | (simp; omega)) _ | refine Below.setCell ?_ (by first | omega | (simp; done) | (simp; omega)) _ | refine Below.then ?_ hb9 (by first | omega | (simp; done) | (simp; omega)) | refine Below.then ?_ hb8 (by first | omega | (simp; done) | (simp; omega)) | refine Below.then ?_ hb7 (by first | omega | (simp; done) | (simp; omega)) | refine Below.then ?_ hb6 (by first | omega | (simp; done) | (simp; omega)) | refine Below.then ?_ hb5 (by first | omega | (simp; done) | (simp; omega)) | refine Below.then ?_ hb4 (by first | omega | (simp; done) | (simp; omega)) | refine Below.then ?_ hb3 (by first | omega | (simp; done) | (simp; omega)) | refine Below.then ?_ hb2 (by first | omega | (simp; done) | (simp; omega)) | refine Below.then ?_ hb1 (by first | omega | (simp; done) | (simp; omega))))) (by first | omega | (simp; done) | (simp; omega))
    replace q2 := hold_cell (w2 := w3) q2 (by (repeat (first | exact Below.refl _ _ | (with_reducible assumption) | refine Below.drew ?_ | refine Below.drewN' ?_ _ | refine Below.alloc ?_ (by first | omega | (simp; done) | (simp; omega)) _ | refine Below.setCell ?_ (by first | omega | (simp; done) | (simp; omega)) _ | refine Below.then ?_ hb9 (by first | omega | (simp; done) | (simp; omega)) | refine Below.then ?_ hb8 (by first | omega | (simp; done) | (simp; omega)) | refine Below.then ?_ hb7 (by first | omega | (simp; done) | (simp; omega)) | refine Below.then ?_ hb6 (by first | omega | (simp; done) | (simp; omega)) | refine Below.then ?_ hb5 (by first | omega | (simp; done) | (simp; omega)) | refine Below.then ?_ hb4 (by first | omega | (simp; done) | (simp; omega)) | refine Below.then ?_ hb3 (by first | omega | (simp; done) | (simp; omega)) | refine Below.then ?_ hb2 (by first | omega | (simp; done) | (simp; omega)) | refine Below.then ?_ hb1 (by first | omega | (simp; done) | (simp; omega))))) (by first | omega | (simp; done) | (simp; omega))
    have l3 : w.heap.size < w3.heap.size := by first | omega | (simp; done) | (simp; omega)
    have hb03 : Below w.heap.size w w3 := Below.then hb02 hb3 (by omega)
    go_wp2_with fail
    refine (PR.out _ _ (HR2.out.below hb3)).mono ?_
    rintro e4 w4 ⟨fa4, fc4, rfl, hw4, hb4⟩
    have hz4 := hb4.size
    have HW3 := Lib.hid (show IntsOf w4 fa3 M from SlOf.below hw3 hb4)
    have HW4 := Lib.hid hw4
    have hb04 : Below w.heap.size w w4 := Below.then hb03 hb4 (by omega)
    clear hw3 hw4 q0 q1 q2 q3 q4
    go_wp2_with (go_at_call 11; go_in)
    go_loopw [16] (fun iv wr => ∃ k : Nat, k ≤ M.length ∧ iv = .int .i64 k ∧ Below w4.heap.size w4 wr) (fun iv _ => M.length - (intOf iv).toNat)
    case atStart => exact ⟨0, Nat.zero_le _, rfl, Below.refl _ _⟩
    case round =>
      obtain ⟨k, hk, rfl, hB⟩ := hrel
      have hzB := hB.size
      by_cases hlt : k < M.length
      · obtain ⟨b3, o3, rfl, hlt3, hcc3⟩ := i64_at (show IntsOf wr fa3 M from SlOf.below HW3.out hB) k hlt
        obtain ⟨b4, o4, rfl, hlt4, hcc4⟩ := i64_at (show IntsOf wr fa4 M from SlOf.below HW4.out hB) k hlt
        have i1 : (k : Int) < (M.length : Int) := by omega
        have g2 : (M[k] != M[k]) = false := by simp
        go_wp2_with fail
        go_quiet (fail)
        go_wp2
        go_roundw
        case rel => exact ⟨k + 1, by omega, by go_num, by (repeat (first | exact Below.refl _ _ | (with_reducible assumption) | refine Below.drew ?_ | refine Below.drewN' ?_ _ | refine Below.alloc ?_ (by first | omega | (simp; done) | (simp; omega)) _ | refine Below.setCell ?_ (by first | omega | (simp; done) | (simp; omega)) _ | refine Below.then ?_ hb9 (by first | omega | (simp; done) | (simp; omega)) | refine Below.then ?_ hb8 (by first | omega | (simp; done) | (simp; omega)) | refine Below.then ?_ hb7 (by first | omega | (simp; done) | (simp; omega)) | refine Below.then ?_ hb6 (by first | omega | (simp; done) | (simp; omega)) | refine Below.then ?_ hb5 (by first | omega | (simp; done) | (simp; omega)) | refine Below.then ?_ hb4 (by first | omega | (simp; done) | (simp; omega)) | refine Below.then ?_ hb3 (by first | omega | (simp; done) | (simp; omega)) | refine Below.then ?_ hb2 (by first | omega | (simp; done) | (simp; omega)) | refine Below.then ?_ hb1 (by first | omega | (simp; done) | (simp; omega))))⟩
        case measure => simp [intOf]; omega
      · obtain rfl : k = M.length := by omega
        go_wp2_with (go_at_call 12; refine (WK.out _).mono ?_; rintro e5 w5 ⟨rfl, hb5⟩; have hz5 := hb5.size; (try simp at hz5))
        go_ret
        exact ⟨rfl, Below.then (Below.then hb04 hB (by omega)) hb5 (by omega)⟩
end Go.Proofs.Ytiodkcecpnomcaa
