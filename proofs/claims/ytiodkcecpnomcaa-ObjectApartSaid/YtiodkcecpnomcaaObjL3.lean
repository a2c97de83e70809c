/- The law of layer 'object': the object at each of several words, or why there is none. -/
import Derived.Test.YtiodkcecpnomcaaObjU
namespace Go.Proofs.Ytiodkcecpnomcaa
open Go.RowKit
set_option linter.unusedVariables false
set_option linter.unusedSimpArgs false
attribute [local go_sem ↓] Go.wp_at_zero Go.wp_at_succ

theorem SlOf.put {W : World} {a : Option Addr} {vs : List Value} {d : Nat} (h : SlOf W a vs) (ha : ∀ ad, a = some ad → ad.block ≠ d) (j : Nat) (v : Value) : SlOf (W.setCell ⟨d, j, none⟩ v) a vs := by
  rcases h with h | ⟨b', o, rfl, hb, hc⟩
  · exact .inl h
  · exact .inr ⟨b', o, rfl, by rw [setCell_size]; exact hb, fun i hi => (cell_blk _ _ _ _ _ _ (fun e => ha ⟨b', o, none⟩ rfl e.symm)).trans (hc i hi)⟩
theorem same_true {f : Nat} {args : Array Value} {w : World} {x1 s1 m1 k1 : Int} {l : List Int} (h : Calls Try.prog f args w fun e w' => e = .returned (.bool (decide (x1 = x1 ∧ (s1 = s1 ∧ m1 = m1) ∧ k1 = k1 ∧ l = l))) ∧ Below w.heap.size w w') :
    Calls Try.prog f args w fun e w' => e = .returned (.bool true) ∧ Below w.heap.size w w' := h.mono fun _ _ he => ⟨by rw [he.1]; simp, he.2⟩
theorem flds_short {t sp : Int} {ss : List ByteArray} {l : List Int} {at_ : Int} : (rdF t sp ss l at_).length ≤ l.length := by
  unfold rdF
  split
  · unfold fldsO
    rw [List.length_take, List.length_drop]
    omega
  · simp

set_option maxRecDepth 1000000 in
set_option maxHeartbeats 6400000 in
theorem objectReadMany_walk (w : World) (t : Int) (_wt : (Lit.int .i64 t).wf = true) (sp : Int) (_wsp : (Lit.int .i64 sp).wf = true) (a : Option Addr) (c : Nat) (ss : List ByteArray) (hnc : ss.length ≤ maxLen ∧ ss.length ≤ c) (h : SlOf w a (strV ss)) (hs : ∀ s ∈ ss, s.size ≤ maxLen)
    (wa : Option Addr) (wc : Nat) (ws : List Int) (hwc : ws.length ≤ maxLen ∧ ws.length ≤ wc ∧ (wa = none → wc = 0)) (hw : WdsOf w wa ws) (hwr : ∀ z ∈ ws, (Lit.int .u64 z).wf = true) (more : Int) (_wm : (Lit.int .i64 more).wf = true) (za : Option Addr) (zc : Nat) (zs : List Int) (hb40 : 40 < zs.length) :
    Calls Try.prog 8 #[.agg #[.int .i64 t, .int .i64 sp, .slice a ss.length c, .slice wa ws.length wc, .int .i64 more], .slice za zs.length zc] w fun e w' => e = .returned (.bool true) ∧ Below w.heap.size w w' := by
  have HL := Lib.hid (show LIn w a c ss wa wc ws from ⟨fit_of hnc hs, h, fun e => by have := hwc.2.2 e; omega, fun z hz => wf_u64 (hwr z hz), hw⟩)
  have WK := Lib.hid (fun W => works7_calls W)
  clear h hs hw hwr hwc hnc
  cases hm : madeB t sp ss ws.length more with
  | false =>
    have MN := fun W (h : LIn W a c ss wa wc ws) => made_no t sp a c ss wa wc ws.length more hm h.fit W h.sh
    unfold heapA at MN
    have MN := Lib.hid MN
    have ON := Lib.hid (fun W => arOf_nil W)
    clear hm
    go_enter Try.func8, Try.ntmps8
    go_wp2_with fail
    refine (MN.out _ (HL.out.alloc _)).mono ?_; rintro e1 w1 ⟨rfl, hb1⟩; have hz1 := hb1.size; (try simp at hz1)
    go_wp2_with fail
    refine (ON.out _).mono ?_; rintro e2 w2 ⟨rfl, hb2⟩; have hz2 := hb2.size; (try simp at hz2)
    go_wp2_with (first | (go_at_call 11; go_in) | (go_at_call 12; refine (WK.out _).mono ?_; rintro e3 w3 ⟨rfl, hb3⟩; have hz3 := hb3.size; (try simp at hz3)))
    go_ret
    exact ⟨rfl, by (repeat (first | exact Below.refl _ _ | (with_reducible assumption) | refine Below.drew ?_ | refine Below.drewN' ?_ _ | refine Below.alloc ?_ (by first | omega | (simp; done) | (simp; omega)) _ | refine Below.setCell ?_ (by first | omega | (simp; done) | (simp; omega)) _ | refine Below.then ?_ hb9 (by first | omega | (simp; done) | (simp; omega)) | refine Below.then ?_ hb8 (by first | omega | (simp; done) | (simp; omega)) | refine Below.then ?_ hb7 (by first | omega | (simp; done) | (simp; omega)) | refine Below.then ?_ hb6 (by first | omega | (simp; done) | (simp; omega)) | refine Below.then ?_ hb5 (by first | omega | (simp; done) | (simp; omega)) | refine Below.then ?_ hb4 (by first | omega | (simp; done) | (simp; omega)) | refine Below.then ?_ hb3 (by first | omega | (simp; done) | (simp; omega)) | refine Below.then ?_ hb2 (by first | omega | (simp; done) | (simp; omega)) | refine Below.then ?_ hb1 (by first | omega | (simp; done) | (simp; omega))))⟩
  | true =>
    have MO := fun W (h : LIn W a c ss wa wc ws) => made_ok t sp a c ss wa wc ws more hm h.fit h.wn h.rng W h.sh h.wds
    obtain ⟨hp, hLn, hL66, hLr⟩ : planB t sp ss = true ∧ (padTo ws (madeN t sp more)).length = madeN t sp more ∧ (66 ≤ madeN t sp more ∧ madeN t sp more ≤ 222) ∧ ∀ x ∈ padTo ws (madeN t sp more), 0 ≤ x ∧ x < 18446744073709551616 := by
      unfold madeB at hm
      simp only [Bool.and_eq_true, decide_eq_true_eq] at hm
      obtain ⟨⟨⟨⟨hp, h1⟩, h2⟩, h3⟩, h4⟩ := hm
      obtain ⟨b1, b2, b3, b4, _⟩ := plan_ok hp
      exact ⟨hp, padTo_len _ _, by unfold madeN; omega, padTo_rng HL.out.rng⟩
    generalize padTo ws (madeN t sp more) = L at MO hLn hLr
    generalize madeN t sp more = N at MO hL66 hLn
    subst hLn
    have hN0 : ((L.length : Int) == 0) = false := beq_eq_false_iff_ne.2 (by omega)
    unfold heapA at MO
    have MO := Lib.hid MO
    have OF := Lib.hid (fun g W h => arOf_calls (some ⟨g, 0, none⟩) L.length L (by omega) (by omega) hLr W h)
    have RI := Lib.hid (fun g W (hl : LIn W a c ss wa wc ws) hw => (⟨hLr, by omega, hl.fit, hw, hl.sh⟩ : RIn W (some ⟨g, 0, none⟩) L a ss))
    have HN := Lib.hid HL.out.fit.1
    clear hm hLr
    go_enter Try.func8, Try.ntmps8
    go_wp2_with fail
    refine (MO.out _ (HL.out.alloc _)).mono ?_
    rintro e1 w1 ⟨g1, rfl, hw1, hb1⟩
    have HL1 := Lib.hid ((HL.out.alloc _).below hb1)
    obtain ⟨hc1, hf1⟩ := bcell hb1
    have hz1 := hb1.size
    (try simp at hz1)
    have q0 := hc1 w.heap.size 0 (by first | omega | (simp; done) | (simp; omega)); simp [go_sem] at q0
    have q1 := hc1 w.heap.size 1 (by first | omega | (simp; done) | (simp; omega)); simp [go_sem] at q1
    have q2 := hc1 w.heap.size 2 (by first | omega | (simp; done) | (simp; omega)); simp [go_sem] at q2
    have q3 := hc1 w.heap.size 3 (by first | omega | (simp; done) | (simp; omega)); simp [go_sem] at q3
    have q4 := hc1 w.heap.size 4 (by first | omega | (simp; done) | (simp; omega)); simp [go_sem] at q4
    have hb01 : Below w.heap.size w w1 := by (repeat (first | exact Below.refl _ _ | (with_reducible assumption) | refine Below.drew ?_ | refine Below.drewN' ?_ _ | refine Below.alloc ?_ (by first | omega | (simp; done) | (simp; omega)) _ | refine Below.setCell ?_ (by first | omega | (simp; done) | (simp; omega)) _ | refine Below.then ?_ hb9 (by first | omega | (simp; done) | (simp; omega)) | refine Below.then ?_ hb8 (by first | omega | (simp; done) | (simp; omega)) | refine Below.then ?_ hb7 (by first | omega | (simp; done) | (simp; omega)) | refine Below.then ?_ hb6 (by first | omega | (simp; done) | (simp; omega)) | refine Below.then ?_ hb5 (by first | omega | (simp; done) | (simp; omega)) | refine Below.then ?_ hb4 (by first | omega | (simp; done) | (simp; omega)) | refine Below.then ?_ hb3 (by first | omega | (simp; done) | (simp; omega)) | refine Below.then ?_ hb2 (by first | omega | (simp; done) | (simp; omega)) | refine Below.then ?_ hb1 (by first | omega | (simp; done) | (simp; omega))))
    clear hc1 hf1 hb1
    go_wp2_with fail
    refine (OF.out g1 _ hw1).mono ?_
    rintro e2 w2 ⟨rfl, ha2, hb2⟩
    have hz2 := hb2.size
    have HL2 := Lib.hid (HL1.out.below hb2)
    have HR2 := Lib.hid (RI.out g1 w2 HL2.out (SlOf.below hw1 hb2))
    have HA2 := Lib.hid ha2
    replace q0 := hold_cell (w2 := w2) q0 (by (repeat (first | exact Below.refl _ _ | (with_reducible assumption) | refine Below.drew ?_ | refine Below.drewN' ?_ _ | refine Below.alloc ?_ (by first | omega | (simp; done) | (simp; omega)) _ | refine Below.setCell ?_ (by first | omega | (simp; done) | (simp; omega)) _ | refine Below.then ?_ hb9 (by first | omega | (simp; done) | (simp; omega)) | refine Below.then ?_ hb8 (by first | omega | (simp; done) | (simp; omega)) | refine Below.then ?_ hb7 (by first | omega | (simp; done) | (simp; omega)) | refine Below.then ?_ hb6 (by first | omega | (simp; done) | (simp; omega)) | refine Below.then ?_ hb5 (by first | omega | (simp; done) | (simp; omega)) | refine Below.then ?_ hb4 (by first | omega | (simp; done) | (simp; omega)) | refine Below.then ?_ hb3 (by first | omega | (simp; done) | (simp; omega)) | refine Below.then ?_ hb2 (by first | omega | (simp; done) | (simp; omega)) | refine Below.then ?_ hb1 (by first | omega | (simp; done) | (simp; omega))))) (by first | omega | (simp; done) | (simp; omega))
    replace q1 := hold_cell (w2 := w2) q1 (by (repeat (first | exact Below.refl _ _ | (with_reducible assumption) | refine Below.drew ?_ | refine Below.drewN' ?_ _ | refine Below.alloc ?_ (by first | omega | (simp; done) | (simp; omega)) _ | refine Below.setCell ?_ (by first | omega | (simp; done) | (simp; omega)) _ | refine Below.then ?_ hb9 (by first | omega | (simp; done) | (simp; omega)) | refine Below.then ?_ hb8 (by first | omega | (simp; done) | (simp; omega)) | refine Below.then ?_ hb7 (by first | omega | (simp; done) | (simp; omega)) | refine Below.then ?_ hb6 (by first | omega | (simp; done) | (simp; omega)) | refine Below.then ?_ hb5 (by first | omega | (simp; done) | (simp; omega)) | refine Below.then ?_ hb4 (by first | omega | (simp; done) | (simp; omega)) | refine Below.then ?_ hb3 (by first | omega | (simp; done) | (simp; omega)) | refine Below.then ?_ hb2 (by first | omega | (simp; done) | (simp; omega)) | refine Below.then ?_ hb1 (by first | omega | (simp; done) | (simp; omega))))) (by first | omega | (simp; done) | (simp; omega))
    replace q2 := hold_cell (w2 := w2) q2 (by (repeat (first | exact Below.refl _ _ | (with_reducible assumption) | refine Below.drew ?_ | refine Below.drewN' ?_ _ | refine Below.alloc ?_ (by first | omega | (simp; done) | (simp; omega)) _ | refine Below.setCell ?_ (by first | omega | (simp; done) | (simp; omega)) _ | refine Below.then ?_ hb9 (by first | omega | (simp; done) | (simp; omega)) | refine Below.then ?_ hb8 (by first | omega | (simp; done) | (simp; omega)) | refine Below.then ?_ hb7 (by first | omega | (simp; done) | (simp; omega)) | refine Below.then ?_ hb6 (by first | omega | (simp; done) | (simp; omega)) | refine Below.then ?_ hb5 (by first | omega | (simp; done) | (simp; omega)) | refine Below.then ?_ hb4 (by first | omega | (simp; done) | (simp; omega)) | refine Below.then ?_ hb3 (by first | omega | (simp; done) | (simp; omega)) | refine Below.then ?_ hb2 (by first | omega | (simp; done) | (simp; omega)) | refine Below.then ?_ hb1 (by first | omega | (simp; done) | (simp; omega))))) (by first | omega | (simp; done) | (simp; omega))
    replace q3 := hold_cell (w2 := w2) q3 (by (repeat (first | exact Below.refl _ _ | (with_reducible assumption) | refine Below.drew ?_ | refine Below.drewN' ?_ _ | refine Below.alloc ?_ (by first | omega | (simp; done) | (simp; omega)) _ | refine Below.setCell ?_ (by first | omega | (simp; done) | (simp; omega)) _ | refine Below.then ?_ hb9 (by first | omega | (simp; done) | (simp; omega)) | refine Below.then ?_ hb8 (by first | omega | (simp; done) | (simp; omega)) | refine Below.then ?_ hb7 (by first | omega | (simp; done) | (simp; omega)) | refine Below.then ?_ hb6 (by first | omega | (simp; done) | (simp; omega)) | refine Below.then ?_ hb5 (by first | omega | (simp; done) | (simp; omega)) | refine Below.then ?_ hb4 (by first | omega | (simp; done) | (simp; omega)) | refine Below.then ?_ hb3 (by first | omega | (simp; done) | (simp; omega)) | refine Below.then ?_ hb2 (by first | omega | (simp; done) | (simp; omega)) | refine Below.then ?_ hb1 (by first | omega | (simp; done) | (simp; omega))))) (by first | omega | (simp; done) | (simp; omega))
    replace q4 := hold_cell (w2 := w2) q4 (by (repeat (first | exact Below.refl _ _ | (with_reducible assumption) | refine Below.drew ?_ | refine Below.drewN' ?_ _ | refine Below.alloc ?_ (by first | omega | (simp; done) | (simp; omega)) _ | refine Below.setCell ?_ (by first | omega | (simp; done) | (simp; omega)) _ | refine Below.then ?_ hb9 (by first | omega | (simp; done) | (simp; omega)) | refine Below.then ?_ hb8 (by first | omega | (simp; done) | (simp; omega)) | refine Below.then ?_ hb7 (by first | omega | (simp; done) | (simp; omega)) | refine Below.then ?_ hb6 (by first | omega | (simp; done) | (simp; omega)) | refine Below.then ?_ hb5 (by first | omega | (simp; done) | (simp; omega)) | refine Below.then ?_ hb4 (by first | omega | (simp; done) | (simp; omega)) | refine Below.then ?_ hb3 (by first | omega | (simp; done) | (simp; omega)) | refine Below.then ?_ hb2 (by first | omega | (simp; done) | (simp; omega)) | refine Below.then ?_ hb1 (by first | omega | (simp; done) | (simp; omega))))) (by first | omega | (simp; done) | (simp; omega))
    have l2 : w.heap.size < w2.heap.size := by first | omega | (simp; done) | (simp; omega)
    have hb02 : Below w.heap.size w w2 := Below.then hb01 hb2 (by omega)
    clear ha2 hw1 hb2 HL1
    have hz41 : (40 : Int) < (zs.length : Int) := by omega
    go_wp2_with (first | (go_at_call 12; refine (WK.out _).mono ?_; rintro e4 w4 ⟨rfl, hb4⟩; have hz4 := hb4.size; (try simp at hz4)))
    go_ret
    exact ⟨rfl, Below.then hb02 hb4 (by omega)⟩

set_option maxRecDepth 1000000 in
set_option maxHeartbeats 6400000 in
theorem objectRead_walk (w : World) (t : Int) (_wt : (Lit.int .i64 t).wf = true) (sp : Int) (_wsp : (Lit.int .i64 sp).wf = true) (a : Option Addr) (c : Nat) (ss : List ByteArray) (hnc : ss.length ≤ maxLen ∧ ss.length ≤ c) (h : SlOf w a (strV ss)) (hs : ∀ s ∈ ss, s.size ≤ maxLen)
    (wa : Option Addr) (wc : Nat) (ws : List Int) (hwc : ws.length ≤ maxLen ∧ ws.length ≤ wc ∧ (wa = none → wc = 0)) (hw : WdsOf w wa ws) (hwr : ∀ z ∈ ws, (Lit.int .u64 z).wf = true) (more : Int) (_wm : (Lit.int .i64 more).wf = true) (za : Option Addr) (zc : Nat) (zs : List Int) (hzc : zs.length ≤ maxLen ∧ zs.length ≤ zc ∧ (za = none → zc = 0)) (hz : IntsOf w za zs) (_hzr : ∀ z ∈ zs, (Lit.int .i64 z).wf = true) :
    Calls Try.prog 8 #[.agg #[.int .i64 t, .int .i64 sp, .slice a ss.length c, .slice wa ws.length wc, .int .i64 more], .slice za zs.length zc] w fun e w' => e = .returned (.bool true) ∧ Below w.heap.size w w' := by
  by_cases hb40 : 40 < zs.length
  · exact objectReadMany_walk w t _wt sp _wsp a c ss hnc h hs wa wc ws hwc hw hwr more _wm za zc zs hb40
  have HL := Lib.hid (show LIn w a c ss wa wc ws from ⟨fit_of hnc hs, h, fun e => by have := hwc.2.2 e; omega, fun z hz => wf_u64 (hwr z hz), hw⟩)
  have WK := Lib.hid (fun W => works7_calls W)
  clear h hs hw hwr hwc hnc
  cases hm : madeB t sp ss ws.length more with
  | false =>
    have MN := fun W (h : LIn W a c ss wa wc ws) => made_no t sp a c ss wa wc ws.length more hm h.fit W h.sh
    unfold heapA at MN
    have MN := Lib.hid MN
    have ON := Lib.hid (fun W => arOf_nil W)
    clear hm
    go_enter Try.func8, Try.ntmps8
    go_wp2_with fail
    refine (MN.out _ (HL.out.alloc _)).mono ?_; rintro e1 w1 ⟨rfl, hb1⟩; have hz1 := hb1.size; (try simp at hz1)
    go_wp2_with fail
    refine (ON.out _).mono ?_; rintro e2 w2 ⟨rfl, hb2⟩; have hz2 := hb2.size; (try simp at hz2)
    go_wp2_with (first | (go_at_call 11; go_in) | (go_at_call 12; refine (WK.out _).mono ?_; rintro e3 w3 ⟨rfl, hb3⟩; have hz3 := hb3.size; (try simp at hz3)))
    go_ret
    exact ⟨rfl, by (repeat (first | exact Below.refl _ _ | (with_reducible assumption) | refine Below.drew ?_ | refine Below.drewN' ?_ _ | refine Below.alloc ?_ (by first | omega | (simp; done) | (simp; omega)) _ | refine Below.setCell ?_ (by first | omega | (simp; done) | (simp; omega)) _ | refine Below.then ?_ hb9 (by first | omega | (simp; done) | (simp; omega)) | refine Below.then ?_ hb8 (by first | omega | (simp; done) | (simp; omega)) | refine Below.then ?_ hb7 (by first | omega | (simp; done) | (simp; omega)) | refine Below.then ?_ hb6 (by first | omega | (simp; done) | (simp; omega)) | refine Below.then ?_ hb5 (by first | omega | (simp; done) | (simp; omega)) | refine Below.then ?_ hb4 (by first | omega | (simp; done) | (simp; omega)) | refine Below.then ?_ hb3 (by first | omega | (simp; done) | (simp; omega)) | refine Below.then ?_ hb2 (by first | omega | (simp; done) | (simp; omega)) | refine Below.then ?_ hb1 (by first | omega | (simp; done) | (simp; omega))))⟩
  | true =>
    have MO := fun W (h : LIn W a c ss wa wc ws) => made_ok t sp a c ss wa wc ws more hm h.fit h.wn h.rng W h.sh h.wds
    obtain ⟨hp, hLn, hL66, hLr⟩ : planB t sp ss = true ∧ (padTo ws (madeN t sp more)).length = madeN t sp more ∧ (66 ≤ madeN t sp more ∧ madeN t sp more ≤ 222) ∧ ∀ x ∈ padTo ws (madeN t sp more), 0 ≤ x ∧ x < 18446744073709551616 := by
      unfold madeB at hm
      simp only [Bool.and_eq_true, decide_eq_true_eq] at hm
      obtain ⟨⟨⟨⟨hp, h1⟩, h2⟩, h3⟩, h4⟩ := hm
      obtain ⟨b1, b2, b3, b4, _⟩ := plan_ok hp
      exact ⟨hp, padTo_len _ _, by unfold madeN; omega, padTo_rng HL.out.rng⟩
    generalize padTo ws (madeN t sp more) = L at MO hLn hLr
    generalize madeN t sp more = N at MO hL66 hLn
    subst hLn
    have hN0 : ((L.length : Int) == 0) = false := beq_eq_false_iff_ne.2 (by omega)
    unfold heapA at MO
    have MO := Lib.hid MO
    have OF := Lib.hid (fun g W h => arOf_calls (some ⟨g, 0, none⟩) L.length L (by omega) (by omega) hLr W h)
    have RI := Lib.hid (fun g W (hl : LIn W a c ss wa wc ws) hw => (⟨hLr, by omega, hl.fit, hw, hl.sh⟩ : RIn W (some ⟨g, 0, none⟩) L a ss))
    have HN := Lib.hid HL.out.fit.1
    have RC := Lib.hid (fun p b z W ha hs => read_calls p b L t sp a c ss z HN.out W ha hs)
    have RR := Lib.hid (fun g z W hr => r7Read_calls (some ⟨g, 0, none⟩) L.length L (Nat.le_refl _) t sp a c ss z W hr)
    have SA := Lib.hid (fun x1 s1 m1 k1 a c l a' c' hn W h h' => same_true (r7Same_calls x1 s1 m1 k1 a c l x1 s1 m1 k1 a' c' l hn hn W h h'))
    have SB := Lib.hid (fun x1 s1 m1 k1 a c l a' c' hn W h h' => same_true (objSame_calls x1 s1 m1 k1 a c l x1 s1 m1 k1 a' c' l hn hn W h h'))
    have HS := Lib.hid (fun p b g W h h' => has_calls p b L (some ⟨g, 0, none⟩) L.length L (by omega) (by omega) hLr W h h')
    have HZ := Lib.hid hz
    have hz40 : ¬ 40 < zs.length := hb40
    have hz41 : (zs.length : Int) ≤ 40 := by omega
    clear hz
    clear hm hLr
    go_enter Try.func8, Try.ntmps8
    go_wp2_with fail
    refine (MO.out _ (HL.out.alloc _)).mono ?_
    rintro e1 w1 ⟨g1, rfl, hw1, hb1⟩
    have HL1 := Lib.hid ((HL.out.alloc _).below hb1)
    obtain ⟨hc1, hf1⟩ := bcell hb1
    have hz1 := hb1.size
    (try simp at hz1)
    have q0 := hc1 w.heap.size 0 (by first | omega | (simp; done) | (simp; omega)); simp [go_sem] at q0
    have q1 := hc1 w.heap.size 1 (by first | omega | (simp; done) | (simp; omega)); simp [go_sem] at q1
    have q2 := hc1 w.heap.size 2 (by first | omega | (simp; done) | (simp; omega)); simp [go_sem] at q2
    have q3 := hc1 w.heap.size 3 (by first | omega | (simp; done) | (simp; omega)); simp [go_sem] at q3
    have q4 := hc1 w.heap.size 4 (by first | omega | (simp; done) | (simp; omega)); simp [go_sem] at q4
    have hb01 : Below w.heap.size w w1 := by (repeat (first | exact Below.refl _ _ | (with_reducible assumption) | refine Below.drew ?_ | refine Below.drewN' ?_ _ | refine Below.alloc ?_ (by first | omega | (simp; done) | (simp; omega)) _ | refine Below.setCell ?_ (by first | omega | (simp; done) | (simp; omega)) _ | refine Below.then ?_ hb9 (by first | omega | (simp; done) | (simp; omega)) | refine Below.then ?_ hb8 (by first | omega | (simp; done) | (simp; omega)) | refine Below.then ?_ hb7 (by first | omega | (simp; done) | (simp; omega)) | refine Below.then ?_ hb6 (by first | omega | (simp; done) | (simp; omega)) | refine Below.then ?_ hb5 (by first | omega | (simp; done) | (simp; omega)) | refine Below.then ?_ hb4 (by first | omega | (simp; done) | (simp; omega)) | refine Below.then ?_ hb3 (by first | omega | (simp; done) | (simp; omega)) | refine Below.then ?_ hb2 (by first | omega | (simp; done) | (simp; omega)) | refine Below.then ?_ hb1 (by first | omega | (simp; done) | (simp; omega))))
    clear hc1 hf1 hb1
    go_wp2_with fail
    refine (OF.out g1 _ hw1).mono ?_
    rintro e2 w2 ⟨rfl, ha2, hb2⟩
    have hz2 := hb2.size
    have HL2 := Lib.hid (HL1.out.below hb2)
    have HR2 := Lib.hid (RI.out g1 w2 HL2.out (SlOf.below hw1 hb2))
    have HA2 := Lib.hid ha2
    replace q0 := hold_cell (w2 := w2) q0 (by (repeat (first | exact Below.refl _ _ | (with_reducible assumption) | refine Below.drew ?_ | refine Below.drewN' ?_ _ | refine Below.alloc ?_ (by first | omega | (simp; done) | (simp; omega)) _ | refine Below.setCell ?_ (by first | omega | (simp; done) | (simp; omega)) _ | refine Below.then ?_ hb9 (by first | omega | (simp; done) | (simp; omega)) | refine Below.then ?_ hb8 (by first | omega | (simp; done) | (simp; omega)) | refine Below.then ?_ hb7 (by first | omega | (simp; done) | (simp; omega)) | refine Below.then ?_ hb6 (by first | omega | (simp; done) | (simp; omega)) | refine Below.then ?_ hb5 (by first | omega | (simp; done) | (simp; omega)) | refine Below.then ?_ hb4 (by first | omega | (simp; done) | (simp; omega)) | refine Below.then ?_ hb3 (by first | omega | (simp; done) | (simp; omega)) | refine Below.then ?_ hb2 (by first | omega | (simp; done) | (simp; omega)) | refine Below.then ?_ hb1 (by first | omega | (simp; done) | (simp; omega))))) (by first | omega | (simp; done) | (simp; omega))
    replace q1 := hold_cell (w2 := w2) q1 (by (repeat (first | exact Below.refl _ _ | (with_reducible assumption) | refine Below.drew ?_ | refine Below.drewN' ?_ _ | refine Below.alloc ?_ (by first | omega | (simp; done) | (simp; omega)) _ | refine Below.setCell ?_ (by first | omega | (simp; done) | (simp; omega)) _ | refine Below.then ?_ hb9 (by first | omega | (simp; done) | (simp; omega)) | refine Below.then ?_ hb8 (by first | omega | (simp; done) | (simp; omega)) | refine Below.then ?_ hb7 (by first | omega | (simp; done) | (simp; omega)) | refine Below.then ?_ hb6 (by first | omega | (simp; done) | (simp; omega)) | refine Below.then ?_ hb5 (by first | omega | (simp; done) | (simp; omega)) | refine Below.then ?_ hb4 (by first | omega | (simp; done) | (simp; omega)) | refine Below.then ?_ hb3 (by first | omega | (simp; done) | (simp; omega)) | refine Below.then ?_ hb2 (by first | omega | (simp; done) | (simp; omega)) | refine Below.then ?_ hb1 (by first | omega | (simp; done) | (simp; omega))))) (by first | omega | (simp; done) | (simp; omega))
    replace q2 := hold_cell (w2 := w2) q2 (by (repeat (first | exact Below.refl _ _ | (with_reducible assumption) | refine Below.drew ?_ | refine Below.drewN' ?_ _ | refine Below.alloc ?_ (by first | omega | (simp; done) | (simp; omega)) _ | refine Below.setCell ?_ (by first | omega | (simp; done) | (simp; omega)) _ | refine Below.then ?_ hb9 (by first | omega | (simp; done) | (simp; omega)) | refine Below.then ?_ hb8 (by first | omega | (simp; done) | (simp; omega)) | refine Below.then ?_ hb7 (by first | omega | (simp; done) | (simp; omega)) | refine Below.then ?_ hb6 (by first | omega | (simp; done) | (simp; omega)) | refine Below.then ?_ hb5 (by first | omega | (simp; done) | (simp; omega)) | refine Below.then ?_ hb4 (by first | omega | (simp; done) | (simp; omega)) | refine Below.then ?_ hb3 (by first | omega | (simp; done) | (simp; omega)) | refine Below.then ?_ hb2 (by first | omega | (simp; done) | (simp; omega)) | refine Below.then ?_ hb1 (by first | omega | (simp; done) | (simp; omega))))) (by first | omega | (simp; done) | (simp; omega))
    replace q3 := hold_cell (w2 := w2) q3 (by (repeat (first | exact Below.refl _ _ | (with_reducible assumption) | refine Below.drew ?_ | refine Below.drewN' ?_ _ | refine Below.alloc ?_ (by first | omega | (simp; done) | (simp; omega)) _ | refine Below.setCell ?_ (by first | omega | (simp; done) | (simp; omega)) _ | refine Below.then ?_ hb9 (by first | omega | (simp; done) | (simp; omega)) | refine Below.then ?_ hb8 (by first | omega | (simp; done) | (simp; omega)) | refine Below.then ?_ hb7 (by first | omega | (simp; done) | (simp; omega)) | refine Below.then ?_ hb6 (by first | omega | (simp; done) | (simp; omega)) | refine Below.then ?_ hb5 (by first | omega | (simp; done) | (simp; omega)) | refine Below.then ?_ hb4 (by first | omega | (simp; done) | (simp; omega)) | refine Below.then ?_ hb3 (by first | omega | (simp; done) | (simp; omega)) | refine Below.then ?_ hb2 (by first | omega | (simp; done) | (simp; omega)) | refine Below.then ?_ hb1 (by first | omega | (simp; done) | (simp; omega))))) (by first | omega | (simp; done) | (simp; omega))
    replace q4 := hold_cell (w2 := w2) q4 (by (repeat (first | exact Below.refl _ _ | (with_reducible assumption) | refine Below.drew ?_ | refine Below.drewN' ?_ _ | refine Below.alloc ?_ (by first | omega | (simp; done) | (simp; omega)) _ | refine Below.setCell ?_ (by first | omega | (simp; done) | (simp; omega)) _ | refine Below.then ?_ hb9 (by first | omega | (simp; done) | (simp; omega)) | refine Below.then ?_ hb8 (by first | omega | (simp; done) | (simp; omega)) | refine Below.then ?_ hb7 (by first | omega | (simp; done) | (simp; omega)) | refine Below.then ?_ hb6 (by first | omega | (simp; done) | (simp; omega)) | refine Below.then ?_ hb5 (by first | omega | (simp; done) | (simp; omega)) | refine Below.then ?_ hb4 (by first | omega | (simp; done) | (simp; omega)) | refine Below.then ?_ hb3 (by first | omega | (simp; done) | (simp; omega)) | refine Below.then ?_ hb2 (by first | omega | (simp; done) | (simp; omega)) | refine Below.then ?_ hb1 (by first | omega | (simp; done) | (simp; omega))))) (by first | omega | (simp; done) | (simp; omega))
    have l2 : w.heap.size < w2.heap.size := by first | omega | (simp; done) | (simp; omega)
    have hb02 : Below w.heap.size w w2 := Below.then hb01 hb2 (by omega)
    clear ha2 hw1 hb2 HL1
    go_wp2_with (go_at_call 11; go_in)
    go_loopw [8] (fun iv wr => ∃ k : Nat, k ≤ zs.length ∧ iv = .int .i64 k ∧ Below w2.heap.size w2 wr) (fun iv _ => zs.length - (intOf iv).toNat)
    case atStart => exact ⟨0, Nat.zero_le _, rfl, Below.refl _ _⟩
    case round =>
      obtain ⟨k, hk, rfl, hB⟩ := hrel
      have hzB := hB.size
      have hb0r : Below w.heap.size w wr := Below.then hb02 hB (by omega)
      by_cases hlt : k < zs.length
      · obtain ⟨lb, lo, rfl, hlb, hlc⟩ := i64_at (show IntsOf w za zs from HZ.out) k hlt
        have r0 := (hB.cell (p := ⟨w.heap.size, 0, none⟩) l2).trans q0
        have r1 := (hB.cell (p := ⟨w.heap.size, 1, none⟩) l2).trans q1
        have r2 := (hB.cell (p := ⟨w.heap.size, 2, none⟩) l2).trans q2
        have r3 := (hb0r.cell (p := ⟨lb, lo + k, none⟩) hlb).trans hlc
        have i1 : (k : Int) < (zs.length : Int) := by omega
        have i0 : (0 : Int) ≤ (k : Int) := by omega
        have lwA : w.heap.size < wr.heap.size := by omega
        have lbA : lb < wr.heap.size := by omega
        have RCk := Lib.hid (fun p b W h hs => RC.out p b zs[k] W h hs)
        have RRk := Lib.hid (fun g W h => RR.out g zs[k] W h)
        have hF := flds_short (t := t) (sp := sp) (ss := ss) (l := L) (at_ := zs[k])
        have HAd := Lib.hid (HA2.out.below hB).drew
        have HSd := Lib.hid (HL2.out.below hB).sh.drew
        have HAe := Lib.hid (fun o => ((HA2.out.below hB).alloc o).drew)
        have HSe := Lib.hid (fun o => ((HL2.out.below hB).sh.alloc o).drew)
        have HRr := Lib.hid (HR2.out.below hB)
        generalize zs[k] = z at r3 RCk RRk hlc hF
        have R1 := RCk.out
        have R2 := RRk.out
        unfold ReadPost objV at R1 R2
        generalize rdA t sp ss L z = fA at R1 R2
        generalize rdS t sp ss L z = fS at R1 R2
        generalize rdM t sp ss L z = fM at R1 R2
        generalize rdL t sp ss L z = fL at R1 R2
        generalize rdF t sp ss L z = fF at R1 R2 hF
        generalize objE t sp ss L z = fE at R1 R2
        have R1 := Lib.hid R1
        have R2 := Lib.hid R2
        clear RCk RRk hlc
        have keepSA : ∀ A B : World, Below wr.heap.size A B → (A.cell? ⟨w.heap.size, 0, none⟩ = some (.int .i64 t) ∧ A.cell? ⟨w.heap.size, 1, none⟩ = some (.int .i64 sp) ∧ A.cell? ⟨w.heap.size, 2, none⟩ = some (.slice a ss.length c) ∧ A.cell? ⟨lb, lo + k, none⟩ = some (.int .i64 z) ∧ wr.heap.size ≤ A.heap.size) → (B.cell? ⟨w.heap.size, 0, none⟩ = some (.int .i64 t) ∧ B.cell? ⟨w.heap.size, 1, none⟩ = some (.int .i64 sp) ∧ B.cell? ⟨w.heap.size, 2, none⟩ = some (.slice a ss.length c) ∧ B.cell? ⟨lb, lo + k, none⟩ = some (.int .i64 z) ∧ wr.heap.size ≤ B.heap.size) := fun A B hb hc => ⟨(hb.cell (p := ⟨w.heap.size, 0, none⟩) lwA).trans hc.1, (hb.cell (p := ⟨w.heap.size, 1, none⟩) lwA).trans hc.2.1, (hb.cell (p := ⟨w.heap.size, 2, none⟩) lwA).trans hc.2.2.1, (hb.cell (p := ⟨lb, lo + k, none⟩) lbA).trans hc.2.2.2.1, Nat.le_trans hc.2.2.2.2 hb.size⟩
        have keepCA := Lib.hid (show ∀ A B : World, Below A.heap.size A B → (A.cell? ⟨w.heap.size, 0, none⟩ = some (.int .i64 t) ∧ A.cell? ⟨w.heap.size, 1, none⟩ = some (.int .i64 sp) ∧ A.cell? ⟨w.heap.size, 2, none⟩ = some (.slice a ss.length c) ∧ A.cell? ⟨lb, lo + k, none⟩ = some (.int .i64 z) ∧ wr.heap.size ≤ A.heap.size) → (B.cell? ⟨w.heap.size, 0, none⟩ = some (.int .i64 t) ∧ B.cell? ⟨w.heap.size, 1, none⟩ = some (.int .i64 sp) ∧ B.cell? ⟨w.heap.size, 2, none⟩ = some (.slice a ss.length c) ∧ B.cell? ⟨lb, lo + k, none⟩ = some (.int .i64 z) ∧ wr.heap.size ≤ B.heap.size) from fun A B hb hc => keepSA A B (hb.mono hc.2.2.2.2) hc)
        have keepAA := Lib.hid (show ∀ (A : World) (x0 : Obj), (A.cell? ⟨w.heap.size, 0, none⟩ = some (.int .i64 t) ∧ A.cell? ⟨w.heap.size, 1, none⟩ = some (.int .i64 sp) ∧ A.cell? ⟨w.heap.size, 2, none⟩ = some (.slice a ss.length c) ∧ A.cell? ⟨lb, lo + k, none⟩ = some (.int .i64 z) ∧ wr.heap.size ≤ A.heap.size) → ((A.alloc x0).cell? ⟨w.heap.size, 0, none⟩ = some (.int .i64 t) ∧ (A.alloc x0).cell? ⟨w.heap.size, 1, none⟩ = some (.int .i64 sp) ∧ (A.alloc x0).cell? ⟨w.heap.size, 2, none⟩ = some (.slice a ss.length c) ∧ (A.alloc x0).cell? ⟨lb, lo + k, none⟩ = some (.int .i64 z) ∧ wr.heap.size ≤ (A.alloc x0).heap.size) from fun A x0 hc => keepSA A _ ((Below.refl _ _).alloc hc.2.2.2.2 _) hc)
        have keepDA := Lib.hid (show (wr.drew.cell? ⟨w.heap.size, 0, none⟩ = some (.int .i64 t) ∧ wr.drew.cell? ⟨w.heap.size, 1, none⟩ = some (.int .i64 sp) ∧ wr.drew.cell? ⟨w.heap.size, 2, none⟩ = some (.slice a ss.length c) ∧ wr.drew.cell? ⟨lb, lo + k, none⟩ = some (.int .i64 z) ∧ wr.heap.size ≤ wr.drew.heap.size) from keepSA wr _ (Below.refl _ _).drew ⟨r0, r1, r2, r3, Nat.le_refl _⟩)
        have keepEA := Lib.hid (show ∀ (x0 : Obj), ((wr.alloc x0).drew.cell? ⟨w.heap.size, 0, none⟩ = some (.int .i64 t) ∧ (wr.alloc x0).drew.cell? ⟨w.heap.size, 1, none⟩ = some (.int .i64 sp) ∧ (wr.alloc x0).drew.cell? ⟨w.heap.size, 2, none⟩ = some (.slice a ss.length c) ∧ (wr.alloc x0).drew.cell? ⟨lb, lo + k, none⟩ = some (.int .i64 z) ∧ wr.heap.size ≤ (wr.alloc x0).drew.heap.size) from fun x0 => keepSA wr _ ((Below.refl _ _).alloc (Nat.le_refl _) _).drew ⟨r0, r1, r2, r3, Nat.le_refl _⟩)
        have keepTA := Lib.hid (show ∀ (A : World) (d : Nat) (v0 v1 v2 v3 v4 : Value), wr.heap.size ≤ d → (A.cell? ⟨w.heap.size, 0, none⟩ = some (.int .i64 t) ∧ A.cell? ⟨w.heap.size, 1, none⟩ = some (.int .i64 sp) ∧ A.cell? ⟨w.heap.size, 2, none⟩ = some (.slice a ss.length c) ∧ A.cell? ⟨lb, lo + k, none⟩ = some (.int .i64 z) ∧ wr.heap.size ≤ A.heap.size) → ((((((A.setCell ⟨d, 0, none⟩ v0).setCell ⟨d, 1, none⟩ v1).setCell ⟨d, 2, none⟩ v2).setCell ⟨d, 3, none⟩ v3).setCell ⟨d, 4, none⟩ v4).cell? ⟨w.heap.size, 0, none⟩ = some (.int .i64 t) ∧ (((((A.setCell ⟨d, 0, none⟩ v0).setCell ⟨d, 1, none⟩ v1).setCell ⟨d, 2, none⟩ v2).setCell ⟨d, 3, none⟩ v3).setCell ⟨d, 4, none⟩ v4).cell? ⟨w.heap.size, 1, none⟩ = some (.int .i64 sp) ∧ (((((A.setCell ⟨d, 0, none⟩ v0).setCell ⟨d, 1, none⟩ v1).setCell ⟨d, 2, none⟩ v2).setCell ⟨d, 3, none⟩ v3).setCell ⟨d, 4, none⟩ v4).cell? ⟨w.heap.size, 2, none⟩ = some (.slice a ss.length c) ∧ (((((A.setCell ⟨d, 0, none⟩ v0).setCell ⟨d, 1, none⟩ v1).setCell ⟨d, 2, none⟩ v2).setCell ⟨d, 3, none⟩ v3).setCell ⟨d, 4, none⟩ v4).cell? ⟨lb, lo + k, none⟩ = some (.int .i64 z) ∧ wr.heap.size ≤ (((((A.setCell ⟨d, 0, none⟩ v0).setCell ⟨d, 1, none⟩ v1).setCell ⟨d, 2, none⟩ v2).setCell ⟨d, 3, none⟩ v3).setCell ⟨d, 4, none⟩ v4).heap.size) from fun A d v0 v1 v2 v3 v4 hd hc => keepSA A _ (((((Below.refl _ _).setCell hd _).setCell hd _).setCell hd _).setCell hd _ |>.setCell hd _) hc)
        have keepMA := Lib.hid (show ∀ (A : World) (x0 x1 : Obj), wr.heap.size ≤ A.heap.size → ((A.alloc x0).cell? ⟨w.heap.size, 0, none⟩ = some (.int .i64 t) ∧ (A.alloc x0).cell? ⟨w.heap.size, 1, none⟩ = some (.int .i64 sp) ∧ (A.alloc x0).cell? ⟨w.heap.size, 2, none⟩ = some (.slice a ss.length c) ∧ (A.alloc x0).cell? ⟨lb, lo + k, none⟩ = some (.int .i64 z) ∧ wr.heap.size ≤ (A.alloc x0).heap.size) → ((A.alloc x1).cell? ⟨w.heap.size, 0, none⟩ = some (.int .i64 t) ∧ (A.alloc x1).cell? ⟨w.heap.size, 1, none⟩ = some (.int .i64 sp) ∧ (A.alloc x1).cell? ⟨w.heap.size, 2, none⟩ = some (.slice a ss.length c) ∧ (A.alloc x1).cell? ⟨lb, lo + k, none⟩ = some (.int .i64 z) ∧ wr.heap.size ≤ (A.alloc x1).heap.size) from fun A x0 x1 hle hc => keepSA (A.alloc x0) _ ⟨rfl, rfl, rfl, by simp, fun k hk => by rw [Below.heap_alloc _ _ _ (by omega), Below.heap_alloc _ _ _ (by omega)]⟩ hc)
        clear keepSA
        go_wp2_with fail
        refine Code.wp_mono (Q := fun e a W => e = Exit.normal ∧ ∃ (XA : Nat) (faA : Option Addr) (fcA : Nat), a = (?frameOfA : Nat → Option Addr → Nat → Act) XA faA fcA ∧ (W.cell? ⟨XA, 0, none⟩ = some (.int .i64 fA) ∧ W.cell? ⟨XA, 1, none⟩ = some (.int .i64 fS) ∧ W.cell? ⟨XA, 2, none⟩ = some (.int .i64 fM) ∧ W.cell? ⟨XA, 3, none⟩ = some (.int .u64 fL) ∧ W.cell? ⟨XA, 4, none⟩ = some (.slice faA fF.length fcA) ∧ WdsOf W faA fF ∧ wr.heap.size ≤ XA ∧ XA < W.heap.size ∧ Below wr.heap.size wr W)) ?impA ?regA
        case regA =>
          go_region_held3 (fun A => (A.cell? ⟨w.heap.size, 0, none⟩ = some (.int .i64 t) ∧ A.cell? ⟨w.heap.size, 1, none⟩ = some (.int .i64 sp) ∧ A.cell? ⟨w.heap.size, 2, none⟩ = some (.slice a ss.length c) ∧ A.cell? ⟨lb, lo + k, none⟩ = some (.int .i64 z) ∧ wr.heap.size ≤ A.heap.size)) (first | (with_reducible exact keepDA.out) | (with_reducible exact keepEA.out _) | (with_reducible refine keepTA.out _ _ _ _ _ _ _ ?_ ?_; (first | omega | (simp; omega)); assumption) | (with_reducible refine keepCA.out _ _ hb3 ?_; assumption) | (with_reducible refine keepMA.out _ _ _ ?_ (by assumption); first | omega | (simp; omega)) | (with_reducible exact keepAA.out _ _ (by assumption)) | exact keepDA.out) (first | (go_at_call 18; refine (R1.out _ _ _ (by first | with_reducible exact HAd.out | with_reducible exact HAe.out _) (by first | with_reducible exact HSd.out | with_reducible exact HSe.out _)).mono ?_; rintro e3 w3 ⟨ga3, gc3, rfl, hf3, hfr3, hb3⟩; have hz3 := hb3.size; (try simp at hz3); (try (have zc := fun j => hb3.cell (p := ⟨wr.heap.size, j, none⟩) (by simp); have zf := fun j => hb3.frozen (p := ⟨wr.heap.size, j, none⟩) (by simp); have zq0 := zc 0; have zq1 := zc 1; have zq2 := zc 2; have zq3 := zc 3; have zq4 := zc 4; have zf0 := zf 0; have zf1 := zf 1; have zf2 := zf 2; have zf3 := zf 3; have zf4 := zf 4; simp [go_sem] at zq0 zq1 zq2 zq3 zq4 zf0 zf1 zf2 zf3 zf4; have zl : wr.heap.size < w3.heap.size := (by omega); clear zc zf))))
          · obtain ⟨X, hX⟩ : ∃ X, w3.heap.size = X := ⟨_, rfl⟩
            have hB4 : Below wr.heap.size wr (w3.alloc (.cells #[.int .i64 fA, .int .i64 fS, .int .i64 fM, .int .u64 fL, .slice ga3 fF.length gc3] 52)) := ((Below.refl _ _).drew.trans hb3).alloc hz3 _
            refine ⟨rfl, X, ga3, gc3, ?_, ⟨by rw [← hX]; simp [go_sem], by rw [← hX]; simp [go_sem], by rw [← hX]; simp [go_sem], by rw [← hX]; simp [go_sem], by rw [← hX]; simp [go_sem], SlOf.alloc hf3 _, by omega, by simp; omega, hB4⟩⟩
            rw [hX]
          · obtain ⟨X, hX⟩ : ∃ X, wr.heap.size = X := ⟨_, rfl⟩
            have hB3 : Below wr.heap.size wr w3 := ((Below.refl _ _).alloc (Nat.le_refl _) _).drew.trans (hb3.mono (by simp))
            have hB4 := ((((hB3.setCell (p := ⟨wr.heap.size, 0, none⟩) (Nat.le_refl _) (.int .i64 fA)).setCell (p := ⟨wr.heap.size, 1, none⟩) (Nat.le_refl _) (.int .i64 fS)).setCell (p := ⟨wr.heap.size, 2, none⟩) (Nat.le_refl _) (.int .i64 fM)).setCell (p := ⟨wr.heap.size, 3, none⟩) (Nat.le_refl _) (.int .u64 fL)).setCell (p := ⟨wr.heap.size, 4, none⟩) (Nat.le_refl _) (.slice ga3 fF.length gc3)
            have hne : ∀ ad, ga3 = some ad → ad.block ≠ wr.heap.size := fun ad e => by have := hfr3 ad e; simp at this; omega
            have hW4 := SlOf.put (SlOf.put (SlOf.put (SlOf.put (SlOf.put hf3 hne 0 (.int .i64 fA)) hne 1 (.int .i64 fS)) hne 2 (.int .i64 fM)) hne 3 (.int .u64 fL)) hne 4 (.slice ga3 fF.length gc3)
            refine ⟨rfl, X, ga3, gc3, ?_, ⟨?_, ?_, ?_, ?_, ?_, hW4, by omega, by simp; omega, hB4⟩⟩
            · rw [hX]
            all_goals (rw [← hX]; simp [cell_off, cell_put, zq0, zq1, zq2, zq3, zq4])
        case impA =>
          rintro e ac WA ⟨rfl, XA, faA, fcA, rfl, x0, x1, x2, x3, x4, hWdA, hX0A, hX1A, hBA⟩
          have hzA := hBA.size
          replace r0 := (hBA.cell (p := ⟨w.heap.size, 0, none⟩) lwA).trans r0
          replace r1 := (hBA.cell (p := ⟨w.heap.size, 1, none⟩) lwA).trans r1
          replace r2 := (hBA.cell (p := ⟨w.heap.size, 2, none⟩) lwA).trans r2
          replace r3 := (hBA.cell (p := ⟨lb, lo + k, none⟩) lbA).trans r3
          have lwB : w.heap.size < WA.heap.size := by omega
          have lbB : lb < WA.heap.size := by omega
          have HRd := Lib.hid (HRr.out.below hBA |>.below (Below.refl _ _).drew)
          have HRe := Lib.hid (fun o => ((HRr.out.below hBA).alloc o).below (Below.refl _ _).drew)
          have x0' := x0
          have x1' := x1
          have x2' := x2
          have x3' := x3
          have x4' := x4
          clear x0 x1 x2 x3 x4
          have keepSB : ∀ A B : World, Below WA.heap.size A B → (A.cell? ⟨w.heap.size, 0, none⟩ = some (.int .i64 t) ∧ A.cell? ⟨w.heap.size, 1, none⟩ = some (.int .i64 sp) ∧ A.cell? ⟨w.heap.size, 2, none⟩ = some (.slice a ss.length c) ∧ A.cell? ⟨lb, lo + k, none⟩ = some (.int .i64 z) ∧ WA.heap.size ≤ A.heap.size) → (B.cell? ⟨w.heap.size, 0, none⟩ = some (.int .i64 t) ∧ B.cell? ⟨w.heap.size, 1, none⟩ = some (.int .i64 sp) ∧ B.cell? ⟨w.heap.size, 2, none⟩ = some (.slice a ss.length c) ∧ B.cell? ⟨lb, lo + k, none⟩ = some (.int .i64 z) ∧ WA.heap.size ≤ B.heap.size) := fun A B hb hc => ⟨(hb.cell (p := ⟨w.heap.size, 0, none⟩) lwB).trans hc.1, (hb.cell (p := ⟨w.heap.size, 1, none⟩) lwB).trans hc.2.1, (hb.cell (p := ⟨w.heap.size, 2, none⟩) lwB).trans hc.2.2.1, (hb.cell (p := ⟨lb, lo + k, none⟩) lbB).trans hc.2.2.2.1, Nat.le_trans hc.2.2.2.2 hb.size⟩
          have keepCB := Lib.hid (show ∀ A B : World, Below A.heap.size A B → (A.cell? ⟨w.heap.size, 0, none⟩ = some (.int .i64 t) ∧ A.cell? ⟨w.heap.size, 1, none⟩ = some (.int .i64 sp) ∧ A.cell? ⟨w.heap.size, 2, none⟩ = some (.slice a ss.length c) ∧ A.cell? ⟨lb, lo + k, none⟩ = some (.int .i64 z) ∧ WA.heap.size ≤ A.heap.size) → (B.cell? ⟨w.heap.size, 0, none⟩ = some (.int .i64 t) ∧ B.cell? ⟨w.heap.size, 1, none⟩ = some (.int .i64 sp) ∧ B.cell? ⟨w.heap.size, 2, none⟩ = some (.slice a ss.length c) ∧ B.cell? ⟨lb, lo + k, none⟩ = some (.int .i64 z) ∧ WA.heap.size ≤ B.heap.size) from fun A B hb hc => keepSB A B (hb.mono hc.2.2.2.2) hc)
          have keepAB := Lib.hid (show ∀ (A : World) (x0 : Obj), (A.cell? ⟨w.heap.size, 0, none⟩ = some (.int .i64 t) ∧ A.cell? ⟨w.heap.size, 1, none⟩ = some (.int .i64 sp) ∧ A.cell? ⟨w.heap.size, 2, none⟩ = some (.slice a ss.length c) ∧ A.cell? ⟨lb, lo + k, none⟩ = some (.int .i64 z) ∧ WA.heap.size ≤ A.heap.size) → ((A.alloc x0).cell? ⟨w.heap.size, 0, none⟩ = some (.int .i64 t) ∧ (A.alloc x0).cell? ⟨w.heap.size, 1, none⟩ = some (.int .i64 sp) ∧ (A.alloc x0).cell? ⟨w.heap.size, 2, none⟩ = some (.slice a ss.length c) ∧ (A.alloc x0).cell? ⟨lb, lo + k, none⟩ = some (.int .i64 z) ∧ WA.heap.size ≤ (A.alloc x0).heap.size) from fun A x0 hc => keepSB A _ ((Below.refl _ _).alloc hc.2.2.2.2 _) hc)
          have keepDB := Lib.hid (show (WA.drew.cell? ⟨w.heap.size, 0, none⟩ = some (.int .i64 t) ∧ WA.drew.cell? ⟨w.heap.size, 1, none⟩ = some (.int .i64 sp) ∧ WA.drew.cell? ⟨w.heap.size, 2, none⟩ = some (.slice a ss.length c) ∧ WA.drew.cell? ⟨lb, lo + k, none⟩ = some (.int .i64 z) ∧ WA.heap.size ≤ WA.drew.heap.size) from keepSB WA _ (Below.refl _ _).drew ⟨r0, r1, r2, r3, Nat.le_refl _⟩)
          have keepEB := Lib.hid (show ∀ (x0 : Obj), ((WA.alloc x0).drew.cell? ⟨w.heap.size, 0, none⟩ = some (.int .i64 t) ∧ (WA.alloc x0).drew.cell? ⟨w.heap.size, 1, none⟩ = some (.int .i64 sp) ∧ (WA.alloc x0).drew.cell? ⟨w.heap.size, 2, none⟩ = some (.slice a ss.length c) ∧ (WA.alloc x0).drew.cell? ⟨lb, lo + k, none⟩ = some (.int .i64 z) ∧ WA.heap.size ≤ (WA.alloc x0).drew.heap.size) from fun x0 => keepSB WA _ ((Below.refl _ _).alloc (Nat.le_refl _) _).drew ⟨r0, r1, r2, r3, Nat.le_refl _⟩)
          have keepTB := Lib.hid (show ∀ (A : World) (d : Nat) (v0 v1 v2 v3 v4 : Value), WA.heap.size ≤ d → (A.cell? ⟨w.heap.size, 0, none⟩ = some (.int .i64 t) ∧ A.cell? ⟨w.heap.size, 1, none⟩ = some (.int .i64 sp) ∧ A.cell? ⟨w.heap.size, 2, none⟩ = some (.slice a ss.length c) ∧ A.cell? ⟨lb, lo + k, none⟩ = some (.int .i64 z) ∧ WA.heap.size ≤ A.heap.size) → ((((((A.setCell ⟨d, 0, none⟩ v0).setCell ⟨d, 1, none⟩ v1).setCell ⟨d, 2, none⟩ v2).setCell ⟨d, 3, none⟩ v3).setCell ⟨d, 4, none⟩ v4).cell? ⟨w.heap.size, 0, none⟩ = some (.int .i64 t) ∧ (((((A.setCell ⟨d, 0, none⟩ v0).setCell ⟨d, 1, none⟩ v1).setCell ⟨d, 2, none⟩ v2).setCell ⟨d, 3, none⟩ v3).setCell ⟨d, 4, none⟩ v4).cell? ⟨w.heap.size, 1, none⟩ = some (.int .i64 sp) ∧ (((((A.setCell ⟨d, 0, none⟩ v0).setCell ⟨d, 1, none⟩ v1).setCell ⟨d, 2, none⟩ v2).setCell ⟨d, 3, none⟩ v3).setCell ⟨d, 4, none⟩ v4).cell? ⟨w.heap.size, 2, none⟩ = some (.slice a ss.length c) ∧ (((((A.setCell ⟨d, 0, none⟩ v0).setCell ⟨d, 1, none⟩ v1).setCell ⟨d, 2, none⟩ v2).setCell ⟨d, 3, none⟩ v3).setCell ⟨d, 4, none⟩ v4).cell? ⟨lb, lo + k, none⟩ = some (.int .i64 z) ∧ WA.heap.size ≤ (((((A.setCell ⟨d, 0, none⟩ v0).setCell ⟨d, 1, none⟩ v1).setCell ⟨d, 2, none⟩ v2).setCell ⟨d, 3, none⟩ v3).setCell ⟨d, 4, none⟩ v4).heap.size) from fun A d v0 v1 v2 v3 v4 hd hc => keepSB A _ (((((Below.refl _ _).setCell hd _).setCell hd _).setCell hd _).setCell hd _ |>.setCell hd _) hc)
          have keepMB := Lib.hid (show ∀ (A : World) (x0 x1 : Obj), WA.heap.size ≤ A.heap.size → ((A.alloc x0).cell? ⟨w.heap.size, 0, none⟩ = some (.int .i64 t) ∧ (A.alloc x0).cell? ⟨w.heap.size, 1, none⟩ = some (.int .i64 sp) ∧ (A.alloc x0).cell? ⟨w.heap.size, 2, none⟩ = some (.slice a ss.length c) ∧ (A.alloc x0).cell? ⟨lb, lo + k, none⟩ = some (.int .i64 z) ∧ WA.heap.size ≤ (A.alloc x0).heap.size) → ((A.alloc x1).cell? ⟨w.heap.size, 0, none⟩ = some (.int .i64 t) ∧ (A.alloc x1).cell? ⟨w.heap.size, 1, none⟩ = some (.int .i64 sp) ∧ (A.alloc x1).cell? ⟨w.heap.size, 2, none⟩ = some (.slice a ss.length c) ∧ (A.alloc x1).cell? ⟨lb, lo + k, none⟩ = some (.int .i64 z) ∧ WA.heap.size ≤ (A.alloc x1).heap.size) from fun A x0 x1 hle hc => keepSB (A.alloc x0) _ ⟨rfl, rfl, rfl, by simp, fun k hk => by rw [Below.heap_alloc _ _ _ (by omega), Below.heap_alloc _ _ _ (by omega)]⟩ hc)
          clear keepSB
          go_wp2_with fail
          refine Code.wp_mono (Q := fun e a W => e = Exit.normal ∧ ∃ (XB : Nat) (faB : Option Addr) (fcB : Nat), a = (?frameOfB : Nat → Option Addr → Nat → Act) XB faB fcB ∧ (W.cell? ⟨XB, 0, none⟩ = some (.int .i64 fA) ∧ W.cell? ⟨XB, 1, none⟩ = some (.int .i64 fS) ∧ W.cell? ⟨XB, 2, none⟩ = some (.int .i64 fM) ∧ W.cell? ⟨XB, 3, none⟩ = some (.int .u64 fL) ∧ W.cell? ⟨XB, 4, none⟩ = some (.slice faB fF.length fcB) ∧ WdsOf W faB fF ∧ WA.heap.size ≤ XB ∧ XB < W.heap.size ∧ Below WA.heap.size WA W)) ?impB ?regB
          case regB =>
            go_region_held3 (fun A => (A.cell? ⟨w.heap.size, 0, none⟩ = some (.int .i64 t) ∧ A.cell? ⟨w.heap.size, 1, none⟩ = some (.int .i64 sp) ∧ A.cell? ⟨w.heap.size, 2, none⟩ = some (.slice a ss.length c) ∧ A.cell? ⟨lb, lo + k, none⟩ = some (.int .i64 z) ∧ WA.heap.size ≤ A.heap.size)) (first | (with_reducible exact keepDB.out) | (with_reducible exact keepEB.out _) | (with_reducible refine keepTB.out _ _ _ _ _ _ _ ?_ ?_; (first | omega | (simp; omega)); assumption) | (with_reducible refine keepCB.out _ _ hb4 ?_; assumption) | (with_reducible refine keepMB.out _ _ _ ?_ (by assumption); first | omega | (simp; omega)) | (with_reducible exact keepAB.out _ _ (by assumption)) | exact keepDB.out) (first | (go_at_call 23; refine (R2.out _ _ (by first | with_reducible exact HRd.out | with_reducible exact HRe.out _)).mono ?_; rintro e4 w4 ⟨ga4, gc4, rfl, hf4, hfr4, hb4⟩; have hz4 := hb4.size; (try simp at hz4); (try (have zc := fun j => hb4.cell (p := ⟨WA.heap.size, j, none⟩) (by simp); have zf := fun j => hb4.frozen (p := ⟨WA.heap.size, j, none⟩) (by simp); have zq0 := zc 0; have zq1 := zc 1; have zq2 := zc 2; have zq3 := zc 3; have zq4 := zc 4; have zf0 := zf 0; have zf1 := zf 1; have zf2 := zf 2; have zf3 := zf 3; have zf4 := zf 4; simp [go_sem] at zq0 zq1 zq2 zq3 zq4 zf0 zf1 zf2 zf3 zf4; have zl : WA.heap.size < w4.heap.size := (by omega); clear zc zf))))
            · obtain ⟨X, hX⟩ : ∃ X, w4.heap.size = X := ⟨_, rfl⟩
              have hB4 : Below WA.heap.size WA (w4.alloc (.cells #[.int .i64 fA, .int .i64 fS, .int .i64 fM, .int .u64 fL, .slice ga4 fF.length gc4] 52)) := ((Below.refl _ _).drew.trans hb4).alloc hz4 _
              refine ⟨rfl, X, ga4, gc4, ?_, ⟨by rw [← hX]; simp [go_sem], by rw [← hX]; simp [go_sem], by rw [← hX]; simp [go_sem], by rw [← hX]; simp [go_sem], by rw [← hX]; simp [go_sem], SlOf.alloc hf4 _, by omega, by simp; omega, hB4⟩⟩
              rw [hX]
            · obtain ⟨X, hX⟩ : ∃ X, WA.heap.size = X := ⟨_, rfl⟩
              have hB3 : Below WA.heap.size WA w4 := ((Below.refl _ _).alloc (Nat.le_refl _) _).drew.trans (hb4.mono (by simp))
              have hB4 := ((((hB3.setCell (p := ⟨WA.heap.size, 0, none⟩) (Nat.le_refl _) (.int .i64 fA)).setCell (p := ⟨WA.heap.size, 1, none⟩) (Nat.le_refl _) (.int .i64 fS)).setCell (p := ⟨WA.heap.size, 2, none⟩) (Nat.le_refl _) (.int .i64 fM)).setCell (p := ⟨WA.heap.size, 3, none⟩) (Nat.le_refl _) (.int .u64 fL)).setCell (p := ⟨WA.heap.size, 4, none⟩) (Nat.le_refl _) (.slice ga4 fF.length gc4)
              have hne : ∀ ad, ga4 = some ad → ad.block ≠ WA.heap.size := fun ad e => by have := hfr4 ad e; simp at this; omega
              have hW4 := SlOf.put (SlOf.put (SlOf.put (SlOf.put (SlOf.put hf4 hne 0 (.int .i64 fA)) hne 1 (.int .i64 fS)) hne 2 (.int .i64 fM)) hne 3 (.int .u64 fL)) hne 4 (.slice ga4 fF.length gc4)
              refine ⟨rfl, X, ga4, gc4, ?_, ⟨?_, ?_, ?_, ?_, ?_, hW4, by omega, by simp; omega, hB4⟩⟩
              · rw [hX]
              all_goals (rw [← hX]; simp [cell_off, cell_put, zq0, zq1, zq2, zq3, zq4])
          case impB =>
            rintro e ac WB ⟨rfl, XB, faB, fcB, rfl, x0, x1, x2, x3, x4, hWdB, hX0B, hX1B, hBB⟩
            have hzB' := hBB.size
            have y0 := (hBB.cell (p := ⟨XA, 0, none⟩) hX1A).trans x0'
            have y1 := (hBB.cell (p := ⟨XA, 1, none⟩) hX1A).trans x1'
            have y2 := (hBB.cell (p := ⟨XA, 2, none⟩) hX1A).trans x2'
            have y3 := (hBB.cell (p := ⟨XA, 3, none⟩) hX1A).trans x3'
            have y4 := (hBB.cell (p := ⟨XA, 4, none⟩) hX1A).trans x4'
            have HWA := Lib.hid (show WdsOf WB faA fF from SlOf.below hWdA hBB)
            have HWB := Lib.hid hWdB
            have hB2 : Below w2.heap.size w2 WB := Below.then (Below.then hB hBA hzB) hBB (by omega)
            clear x0' x1' x2' x3' x4' hWdA hWdB r0 r1 r2 r3
            have hFm : fF.length ≤ maxLen := by unfold maxLen; omega
            go_wp2_with (first | (go_at_call 11; go_in) | (go_at_call 22; refine (SA.out _ _ _ _ _ _ _ _ _ hFm _ HWA.out HWB.out).mono ?_; rintro e5 w5 ⟨rfl, hb5⟩; have hz5 := hb5.size; have v0 := hold_cell y0 hb5 (by show XA < _; omega); have v1 := hold_cell y1 hb5 (by show XA < _; omega); have v2 := hold_cell y2 hb5 (by show XA < _; omega); have v3 := hold_cell y3 hb5 (by show XA < _; omega); have v4 := hold_cell y4 hb5 (by show XA < _; omega); have u0 := hold_cell x0 hb5 (by show XB < _; omega); have u1 := hold_cell x1 hb5 (by show XB < _; omega); have u2 := hold_cell x2 hb5 (by show XB < _; omega); have u3 := hold_cell x3 hb5 (by show XB < _; omega); have u4 := hold_cell x4 hb5 (by show XB < _; omega)) | (go_at_call 24; refine (SB.out _ _ _ _ _ _ _ _ _ hFm _ (SlOf.below HWA.out hb5) (SlOf.below HWB.out hb5)).mono ?_; rintro e6 w6 ⟨rfl, hb6⟩))
            have hB6 : Below w2.heap.size w2 w6 := Below.then (Below.then hB2 hb5 (by omega)) hb6 (by omega)
            refine ⟨?_, ?measure⟩; (repeat apply Exists.intro); refine ⟨?rel, rfl⟩
            case rel => exact ⟨k + 1, by omega, by go_num, hB6⟩
            case measure => simp [intOf]; omega
      · obtain rfl : k = zs.length := by omega
        go_wp2_with (first | (go_at_call 21; refine (HS.out _ _ _ _ (HA2.out.below hB) (HR2.out.below hB).wds).mono ?_; rintro e3 w3 ⟨rfl, hb3⟩; have hz3 := hb3.size; (try simp at hz3)) | (go_at_call 12; refine (WK.out _).mono ?_; rintro e4 w4 ⟨rfl, hb4⟩; have hz4 := hb4.size; (try simp at hz4)))
        go_ret
        exact ⟨by simp, Below.then (Below.then hb0r hb3 (by omega)) hb4 (by omega)⟩
end Go.Proofs.Ytiodkcecpnomcaa
