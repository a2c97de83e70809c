/- The law of layer 'object': objects that a walk tells share no word; a walk may be parted behind each of them. -/
import Derived.Test.YtiodkcecpnomcaaObjL3
namespace Go.Proofs.Ytiodkcecpnomcaa
open Go.RowKit
set_option linter.unusedVariables false
set_option linter.unusedSimpArgs false
attribute [local go_sem ↓] Go.wp_at_zero Go.wp_at_succ

theorem num7_same (e : Int) (w : World) : Calls Try.prog 11 #[.int .i64 e] w fun r w' => r = .returned (.int .i64 e) ∧ w' = w := by
  go_enter Try.func11, Try.ntmps11
  go_wp2
  go_ret
  exact ⟨rfl, rfl⟩
/-- the first object of a walk, and what is behind it -/
theorem walkL_head {t sp : Int} {ss : List ByteArray} {l : List Int} {U : Int} : ∀ (k : Nat) (y x : Int) (r : List Int), (U - y).toNat ≤ k → walkL t sp ss l U y = x :: r →
    y ≤ x ∧ x < U ∧ sizeO t sp ss (wordAt l x) x ≠ 0 ∧ r = walkL t sp ss l U (x + sizeO t sp ss (wordAt l x) x) := by
  intro k
  induction k with
  | zero =>
    intro y x r hk h
    rw [walkL_end (by omega)] at h
    cases h
  | succ k ih =>
    intro y x r hk h
    by_cases hy : y < U
    · by_cases hz : sizeO t sp ss (wordAt l y) y = 0
      · rw [walkL_zero hy hz] at h
        obtain ⟨h1, h2, h3, h4⟩ := ih (y + 1) x r (by omega) h
        exact ⟨by omega, h2, h3, h4⟩
      · rw [walkL_obj hy hz] at h
        injection h with h1 h2
        subst h1
        exact ⟨Int.le_refl _, hy, hz, h2.symm⟩
    · rw [walkL_end (by omega)] at h
      cases h
/-- an object of a space ends in that space -/
theorem obj_space {t sp s : Int} {ss : List ByteArray} {l : List Int} {x : Int} (b3 : 32 ≤ sp) (hs : 0 ≤ s ∧ s ≤ 1) (h0 : 3 + 2 * t + s * sp ≤ x) (h1 : x < 3 + 2 * t + s * sp + sp) (hz : sizeO t sp ss (wordAt l x) x ≠ 0) :
    2 ≤ sizeO t sp ss (wordAt l x) x ∧ sizeO t sp ss (wordAt l x) x ≤ 10 ∧ x + sizeO t sp ss (wordAt l x) x ≤ 3 + 2 * t + s * sp + sp := by
  obtain ⟨h2, h10, hn⟩ := size_two hz
  refine ⟨h2, h10, ?_⟩
  have hin : inV t sp x = x - (3 + 2 * t + s * sp) := by
    unfold inV
    have : s = 0 ∨ s = 1 := by omega
    rcases this with rfl | rfl
    · rw [Int.emod_eq_of_lt (by omega) (by omega)]; omega
    · rw [show x - (3 + 2 * t) = (x - (3 + 2 * t + 1 * sp)) + sp by omega, Int.add_emod_right, Int.emod_eq_of_lt (by omega) (by omega)]
  omega
/-- what reading such an object tells -/
theorem obj_read {t sp : Int} {ss : List ByteArray} {l : List Int} {x : Int} (hr : rightP t sp ss l.length = true) (h0 : 3 + 2 * t ≤ x) (h1 : x < szP t sp) (hx : 0 ≤ x) (hz : sizeO t sp ss (wordAt l x) x ≠ 0) (hin : x + sizeO t sp ss (wordAt l x) x ≤ l.length) :
    objE t sp ss l x = 0 ∧ ((rdF t sp ss l x).length : Int) + 2 = sizeO t sp ss (wordAt l x) x := by
  have hE : objE t sp ss l x = 0 := by
    unfold objE standE
    rw [if_pos hr, if_neg (by omega), if_neg hz]
  obtain ⟨h2, _, _⟩ := size_two hz
  refine ⟨hE, ?_⟩
  unfold rdF
  rw [if_pos hE, flds_len (by omega)]
  omega
theorem walkE_is {t sp : Int} {ss : List ByteArray} {n : Nat} {s f u : Int} : walkE t sp ss n s f u = 0 ∨ walkE t sp ss n s f u = 2 ∨ walkE t sp ss n s f u = 4 := by
  unfold walkE
  split
  · split
    · exact .inl rfl
    · exact .inr (.inr rfl)
  · exact .inr (.inl rfl)
theorem walkE_ok {t sp : Int} {ss : List ByteArray} {n : Nat} {s f u : Int} (h : walkE t sp ss n s f u = 0) : rightP t sp ss n = true ∧ (0 ≤ s ∧ s ≤ 1) ∧ 0 ≤ f ∧ u ≤ sp ∧ f ≤ u := by
  unfold walkE at h
  by_cases hr : rightP t sp ss n = true
  · rw [if_pos hr] at h
    by_cases hw : walkB sp s f u = true
    · unfold walkB at hw
      simp only [Bool.and_eq_true, decide_eq_true_eq] at hw
      exact ⟨hr, hw.1.1.1, hw.1.1.2, hw.1.2, hw.2⟩
    · rw [if_neg hw] at h
      cases h
  · rw [if_neg hr] at h
    cases h
theorem walkE_go {t sp : Int} {ss : List ByteArray} {n : Nat} {s f u : Int} (hr : rightP t sp ss n = true) (h1 : 0 ≤ s ∧ s ≤ 1) (h2 : 0 ≤ f) (h3 : u ≤ sp) (h4 : f ≤ u) : walkE t sp ss n s f u = 0 := by
  unfold walkE walkB
  rw [if_pos hr, if_pos (by simp [h1, h2, h3, h4])]

set_option maxRecDepth 1000000 in
set_option maxHeartbeats 12800000 in
theorem objectApart_walk (w : World) (t : Int) (_wt : (Lit.int .i64 t).wf = true) (sp : Int) (_wsp : (Lit.int .i64 sp).wf = true) (a : Option Addr) (c : Nat) (ss : List ByteArray) (hnc : ss.length ≤ maxLen ∧ ss.length ≤ c) (h : SlOf w a (strV ss)) (hs : ∀ s ∈ ss, s.size ≤ maxLen)
    (wa : Option Addr) (wc : Nat) (ws : List Int) (hwc : ws.length ≤ maxLen ∧ ws.length ≤ wc ∧ (wa = none → wc = 0)) (hw : WdsOf w wa ws) (hwr : ∀ z ∈ ws, (Lit.int .u64 z).wf = true) (more : Int) (_wm : (Lit.int .i64 more).wf = true) (s : Int) (_ws : (Lit.int .i64 s).wf = true) (cut : Int) (_wcut : (Lit.int .i64 cut).wf = true) :
    Calls Try.prog 5 #[.agg #[.int .i64 t, .int .i64 sp, .slice a ss.length c, .slice wa ws.length wc, .int .i64 more], .int .i64 s, .int .i64 cut] w fun e w' => e = .returned (.bool true) ∧ Below w.heap.size w w' := by
  have HL := Lib.hid (show LIn w a c ss wa wc ws from ⟨fit_of hnc hs, h, fun e => by have := hwc.2.2 e; omega, fun z hz => wf_u64 (hwr z hz), hw⟩)
  have WK := Lib.hid (fun W => works7_calls W)
  clear h hs hw hwr hwc hnc
  cases hm : madeB t sp ss ws.length more with
  | false =>
    have MN := fun W (h : LIn W a c ss wa wc ws) => made_no t sp a c ss wa wc ws.length more hm h.fit W h.sh
    unfold heapA at MN
    have MN := Lib.hid MN
    have ON := Lib.hid (fun W => arOf_nil W)
    clear hm
    go_enter Try.func5, Try.ntmps5
    go_wp2_with fail
    refine (MN.out _ (HL.out.alloc _)).mono ?_; rintro e1 w1 ⟨rfl, hb1⟩; have hz1 := hb1.size; (try simp at hz1)
    go_wp2_with fail
    refine (ON.out _).mono ?_; rintro e2 w2 ⟨rfl, hb2⟩; have hz2 := hb2.size; (try simp at hz2)
    go_wp2_with (first | (go_at_call 11; go_in) | (go_at_call 12; refine (WK.out _).mono ?_; rintro e3 w3 ⟨rfl, hb3⟩; have hz3 := hb3.size; (try simp at hz3)))
    go_ret
    exact ⟨rfl, by (repeat (first | exact Below.refl _ _ | (with_reducible assumption) | refine Below.drew ?_ | refine Below.drewN' ?_ _ | refine Below.alloc ?_ (by first | omega | (simp; done) | (simp; omega)) _ | refine Below.setCell ?_ (by first | omega | (simp; done) | (simp; omega)) _ | refine Below.then ?_ hb9 (by first | omega | (simp; done) | (simp; omega)) | refine Below.then ?_ hb8 (by first | omega | (simp; done) | (simp; omega)) | refine Below.then ?_ hb7 (by first | omega | (simp; done) | (simp; omega)) | refine Below.then ?_ hb6 (by first | omega | (simp; done) | (simp; omega)) | refine Below.then ?_ hb5 (by first | omega | (simp; done) | (simp; omega)) | refine Below.then ?_ hb4 (by first | omega | (simp; done) | (simp; omega)) | refine Below.then ?_ hb3 (by first | omega | (simp; done) | (simp; omega)) | refine Below.then ?_ hb2 (by first | omega | (simp; done) | (simp; omega)) | refine Below.then ?_ hb1 (by first | omega | (simp; done) | (simp; omega))))⟩
  | true =>
    have MO := fun W (h : LIn W a c ss wa wc ws) => made_ok t sp a c ss wa wc ws more hm h.fit h.wn h.rng W h.sh h.wds
    obtain ⟨hp, hLn, hL66, hLr⟩ : planB t sp ss = true ∧ (padTo ws (madeN t sp more)).length = madeN t sp more ∧ (66 ≤ madeN t sp more ∧ madeN t sp more ≤ 222) ∧ ∀ x ∈ padTo ws (madeN t sp more), 0 ≤ x ∧ x < 18446744073709551616 := by
      unfold madeB at hm
      simp only [Bool.and_eq_true, decide_eq_true_eq] at hm
      obtain ⟨⟨⟨⟨hp, h1⟩, h2⟩, h3⟩, h4⟩ := hm
      obtain ⟨b1, b2, b3, b4, _⟩ := plan_ok hp
      exact ⟨hp, padTo_len _ _, by unfold madeN; omega, padTo_rng HL.out.rng⟩
    generalize padTo ws (madeN t sp more) = L at MO hLn hLr
    generalize madeN t sp more = N at MO hL66 hLn
    subst hLn
    have hN0 : ((L.length : Int) == 0) = false := beq_eq_false_iff_ne.2 (by omega)
    unfold heapA at MO
    have MO := Lib.hid MO
    have OF := Lib.hid (fun g W h => arOf_calls (some ⟨g, 0, none⟩) L.length L (by omega) (by omega) hLr W h)
    have RI := Lib.hid (fun g W (hl : LIn W a c ss wa wc ws) hw => (⟨hLr, by omega, hl.fit, hw, hl.sh⟩ : RIn W (some ⟨g, 0, none⟩) L a ss))
    have HN := Lib.hid HL.out.fit.1
    have PC := Lib.hid (fun p b s' f u W ha hs => walk_calls p b L t sp a c ss s' f u HN.out W ha hs)
    have RC := Lib.hid (fun p b z W ha hs => read_calls p b L t sp a c ss z HN.out W ha hs)
    clear hm hLr
    go_enter Try.func5, Try.ntmps5
    go_wp2_with fail
    refine (MO.out _ (HL.out.alloc _)).mono ?_
    rintro e1 w1 ⟨g1, rfl, hw1, hb1⟩
    have HL1 := Lib.hid ((HL.out.alloc _).below hb1)
    obtain ⟨hc1, hf1⟩ := bcell hb1
    have hz1 := hb1.size
    (try simp at hz1)
    have q0 := hc1 w.heap.size 0 (by first | omega | (simp; done) | (simp; omega)); simp [go_sem] at q0
    have q1 := hc1 w.heap.size 1 (by first | omega | (simp; done) | (simp; omega)); simp [go_sem] at q1
    have q2 := hc1 w.heap.size 2 (by first | omega | (simp; done) | (simp; omega)); simp [go_sem] at q2
    have q3 := hc1 w.heap.size 3 (by first | omega | (simp; done) | (simp; omega)); simp [go_sem] at q3
    have q4 := hc1 w.heap.size 4 (by first | omega | (simp; done) | (simp; omega)); simp [go_sem] at q4
    have hb01 : Below w.heap.size w w1 := by (repeat (first | exact Below.refl _ _ | (with_reducible assumption) | refine Below.drew ?_ | refine Below.drewN' ?_ _ | refine Below.alloc ?_ (by first | omega | (simp; done) | (simp; omega)) _ | refine Below.setCell ?_ (by first | omega | (simp; done) | (simp; omega)) _ | refine Below.then ?_ hb9 (by first | omega | (simp; done) | (simp; omega)) | refine Below.then ?_ hb8 (by first | omega | (simp; done) | (simp; omega)) | refine Below.then ?_ hb7 (by first | omega | (simp; done) | (simp; omega)) | refine Below.then ?_ hb6 (by first | omega | (simp; done) | (simp; omega)) | refine Below.then ?_ hb5 (by first | omega | (simp; done) | (simp; omega)) | refine Below.then ?_ hb4 (by first | omega | (simp; done) | (simp; omega)) | refine Below.then ?_ hb3 (by first | omega | (simp; done) | (simp; omega)) | refine Below.then ?_ hb2 (by first | omega | (simp; done) | (simp; omega)) | refine Below.then ?_ hb1 (by first | omega | (simp; done) | (simp; omega))))
    clear hc1 hf1 hb1
    go_wp2_with fail
    refine (OF.out g1 _ hw1).mono ?_
    rintro e2 w2 ⟨rfl, ha2, hb2⟩
    have hz2 := hb2.size
    have HL2 := Lib.hid (HL1.out.below hb2)
    have HR2 := Lib.hid (RI.out g1 w2 HL2.out (SlOf.below hw1 hb2))
    have HA2 := Lib.hid ha2
    replace q0 := hold_cell (w2 := w2) q0 (by (repeat (first | exact Below.refl _ _ | (with_reducible assumption) | refine Below.drew ?_ | refine Below.drewN' ?_ _ | refine Below.alloc ?_ (by first | omega | (simp; done) | (simp; omega)) _ | refine Below.setCell ?_ (by first | omega | (simp; done) | (simp; omega)) _ | refine Below.then ?_ hb9 (by first | omega | (simp; done) | (simp; omega)) | refine Below.then ?_ hb8 (by first | omega | (simp; done) | (simp; omega)) | refine Below.then ?_ hb7 (by first | omega | (simp; done) | (simp; omega)) | refine Below.then ?_ hb6 (by first | omega | (simp; done) | (simp; omega)) | refine Below.then ?_ hb5 (by first | omega | (simp; done) | (simp; omega)) | refine Below.then ?_ hb4 (by first | omega | (simp; done) | (simp; omega)) | refine Below.then ?_ hb3 (by first | omega | (simp; done) | (simp; omega)) | refine Below.then ?_ hb2 (by first | omega | (simp; done) | (simp; omega)) | refine Below.then ?_ hb1 (by first | omega | (simp; done) | (simp; omega))))) (by first | omega | (simp; done) | (simp; omega))
    replace q1 := hold_cell (w2 := w2) q1 (by (repeat (first | exact Below.refl _ _ | (with_reducible assumption) | refine Below.drew ?_ | refine Below.drewN' ?_ _ | refine Below.alloc ?_ (by first | omega | (simp; done) | (simp; omega)) _ | refine Below.setCell ?_ (by first | omega | (simp; done) | (simp; omega)) _ | refine Below.then ?_ hb9 (by first | omega | (simp; done) | (simp; omega)) | refine Below.then ?_ hb8 (by first | omega | (simp; done) | (simp; omega)) | refine Below.then ?_ hb7 (by first | omega | (simp; done) | (simp; omega)) | refine Below.then ?_ hb6 (by first | omega | (simp; done) | (simp; omega)) | refine Below.then ?_ hb5 (by first | omega | (simp; done) | (simp; omega)) | refine Below.then ?_ hb4 (by first | omega | (simp; done) | (simp; omega)) | refine Below.then ?_ hb3 (by first | omega | (simp; done) | (simp; omega)) | refine Below.then ?_ hb2 (by first | omega | (simp; done) | (simp; omega)) | refine Below.then ?_ hb1 (by first | omega | (simp; done) | (simp; omega))))) (by first | omega | (simp; done) | (simp; omega))
    replace q2 := hold_cell (w2 := w2) q2 (by (repeat (first | exact Below.refl _ _ | (with_reducible assumption) | refine Below.drew ?_ | refine Below.drewN' ?_ _ | refine Below.alloc ?_ (by first | omega | (simp; done) | (simp; omega)) _ | refine Below.setCell ?_ (by first | omega | (simp; done) | (simp; omega)) _ | refine Below.then ?_ hb9 (by first | omega | (simp; done) | (simp; omega)) | refine Below.then ?_ hb8 (by first | omega | (simp; done) | (simp; omega)) | refine Below.then ?_ hb7 (by first | omega | (simp; done) | (simp; omega)) | refine Below.then ?_ hb6 (by first | omega | (simp; done) | (simp; omega)) | refine Below.then ?_ hb5 (by first | omega | (simp; done) | (simp; omega)) | refine Below.then ?_ hb4 (by first | omega | (simp; done) | (simp; omega)) | refine Below.then ?_ hb3 (by first | omega | (simp; done) | (simp; omega)) | refine Below.then ?_ hb2 (by first | omega | (simp; done) | (simp; omega)) | refine Below.then ?_ hb1 (by first | omega | (simp; done) | (simp; omega))))) (by first | omega | (simp; done) | (simp; omega))
    replace q3 := hold_cell (w2 := w2) q3 (by (repeat (first | exact Below.refl _ _ | (with_reducible assumption) | refine Below.drew ?_ | refine Below.drewN' ?_ _ | refine Below.alloc ?_ (by first | omega | (simp; done) | (simp; omega)) _ | refine Below.setCell ?_ (by first | omega | (simp; done) | (simp; omega)) _ | refine Below.then ?_ hb9 (by first | omega | (simp; done) | (simp; omega)) | refine Below.then ?_ hb8 (by first | omega | (simp; done) | (simp; omega)) | refine Below.then ?_ hb7 (by first | omega | (simp; done) | (simp; omega)) | refine Below.then ?_ hb6 (by first | omega | (simp; done) | (simp; omega)) | refine Below.then ?_ hb5 (by first | omega | (simp; done) | (simp; omega)) | refine Below.then ?_ hb4 (by first | omega | (simp; done) | (simp; omega)) | refine Below.then ?_ hb3 (by first | omega | (simp; done) | (simp; omega)) | refine Below.then ?_ hb2 (by first | omega | (simp; done) | (simp; omega)) | refine Below.then ?_ hb1 (by first | omega | (simp; done) | (simp; omega))))) (by first | omega | (simp; done) | (simp; omega))
    replace q4 := hold_cell (w2 := w2) q4 (by (repeat (first | exact Below.refl _ _ | (with_reducible assumption) | refine Below.drew ?_ | refine Below.drewN' ?_ _ | refine Below.alloc ?_ (by first | omega | (simp; done) | (simp; omega)) _ | refine Below.setCell ?_ (by first | omega | (simp; done) | (simp; omega)) _ | refine Below.then ?_ hb9 (by first | omega | (simp; done) | (simp; omega)) | refine Below.then ?_ hb8 (by first | omega | (simp; done) | (simp; omega)) | refine Below.then ?_ hb7 (by first | omega | (simp; done) | (simp; omega)) | refine Below.then ?_ hb6 (by first | omega | (simp; done) | (simp; omega)) | refine Below.then ?_ hb5 (by first | omega | (simp; done) | (simp; omega)) | refine Below.then ?_ hb4 (by first | omega | (simp; done) | (simp; omega)) | refine Below.then ?_ hb3 (by first | omega | (simp; done) | (simp; omega)) | refine Below.then ?_ hb2 (by first | omega | (simp; done) | (simp; omega)) | refine Below.then ?_ hb1 (by first | omega | (simp; done) | (simp; omega))))) (by first | omega | (simp; done) | (simp; omega))
    have l2 : w.heap.size < w2.heap.size := by first | omega | (simp; done) | (simp; omega)
    have hb02 : Below w.heap.size w w2 := Below.then hb01 hb2 (by omega)
    clear ha2 hw1 hb2 HL1
    go_wp2_with (go_at_call 11; go_in)
    refine (PC.out _ _ s 0 sp w2 HA2.out HL2.out.sh).mono ?_
    rintro e3 w3 ⟨lf, lc, rfl, hl3, hb3⟩
    have hz3 := hb3.size
    have HL3 := Lib.hid (HL2.out.below hb3)
    have HA3 := Lib.hid (HA2.out.below hb3)
    replace q0 := hold_cell (w2 := w3) q0 (by (repeat (first | exact Below.refl _ _ | (with_reducible assumption) | refine Below.drew ?_ | refine Below.drewN' ?_ _ | refine Below.alloc ?_ (by first | omega | (simp; done) | (simp; omega)) _ | refine Below.setCell ?_ (by first | omega | (simp; done) | (simp; omega)) _ | refine Below.then ?_ hb9 (by first | omega | (simp; done) | (simp; omega)) | refine Below.then ?_ hb8 (by first | omega | (simp; done) | (simp; omega)) | refine Below.then ?_ hb7 (by first | omega | (simp; done) | (simp; omega)) | refine Below.then ?_ hb6 (by first | omega | (simp; done) | (simp; omega)) | refine Below.then ?_ hb5 (by first | omega | (simp; done) | (simp; omega)) | refine Below.then ?_ hb4 (by first | omega | (simp; done) | (simp; omega)) | refine Below.then ?_ hb3 (by first | omega | (simp; done) | (simp; omega)) | refine Below.then ?_ hb2 (by first | omega | (simp; done) | (simp; omega)) | refine Below.then ?_ hb1 (by first | omega | (simp; done) | (simp; omega))))) (by first | omega | (simp; done) | (simp; omega))
    replace q1 := hold_cell (w2 := w3) q1 (by (repeat (first | exact Below.refl _ _ | (with_reducible assumption) | refine Below.drew ?_ | refine Below.drewN' ?_ _ | refine Below.alloc ?_ (by first | omega | (simp; done) | (simp; omega)) _ | refine Below.setCell ?_ (by first | omega | (simp; done) | (simp; omega)) _ | refine Below.then ?_ hb9 (by first | omega | (simp; done) | (simp; omega)) | refine Below.then ?_ hb8 (by first | omega | (simp; done) | (simp; omega)) | refine Below.then ?_ hb7 (by first | omega | (simp; done) | (simp; omega)) | refine Below.then ?_ hb6 (by first | omega | (simp; done) | (simp; omega)) | refine Below.then ?_ hb5 (by first | omega | (simp; done) | (simp; omega)) | refine Below.then ?_ hb4 (by first | omega | (simp; done) | (simp; omega)) | refine Below.then ?_ hb3 (by first | omega | (simp; done) | (simp; omega)) | refine Below.then ?_ hb2 (by first | omega | (simp; done) | (simp; omega)) | refine Below.then ?_ hb1 (by first | omega | (simp; done) | (simp; omega))))) (by first | omega | (simp; done) | (simp; omega))
    replace q2 := hold_cell (w2 := w3) q2 (by (repeat (first | exact Below.refl _ _ | (with_reducible assumption) | refine Below.drew ?_ | refine Below.drewN' ?_ _ | refine Below.alloc ?_ (by first | omega | (simp; done) | (simp; omega)) _ | refine Below.setCell ?_ (by first | omega | (simp; done) | (simp; omega)) _ | refine Below.then ?_ hb9 (by first | omega | (simp; done) | (simp; omega)) | refine Below.then ?_ hb8 (by first | omega | (simp; done) | (simp; omega)) | refine Below.then ?_ hb7 (by first | omega | (simp; done) | (simp; omega)) | refine Below.then ?_ hb6 (by first | omega | (simp; done) | (simp; omega)) | refine Below.then ?_ hb5 (by first | omega | (simp; done) | (simp; omega)) | refine Below.then ?_ hb4 (by first | omega | (simp; done) | (simp; omega)) | refine Below.then ?_ hb3 (by first | omega | (simp; done) | (simp; omega)) | refine Below.then ?_ hb2 (by first | omega | (simp; done) | (simp; omega)) | refine Below.then ?_ hb1 (by first | omega | (simp; done) | (simp; omega))))) (by first | omega | (simp; done) | (simp; omega))
    replace q3 := hold_cell (w2 := w3) q3 (by (repeat (first | exact Below.refl _ _ | (with_reducible assumption) | refine Below.drew ?_ | refine Below.drewN' ?_ _ | refine Below.alloc ?_ (by first | omega | (simp; done) | (simp; omega)) _ | refine Below.setCell ?_ (by first | omega | (simp; done) | (simp; omega)) _ | refine Below.then ?_ hb9 (by first | omega | (simp; done) | (simp; omega)) | refine Below.then ?_ hb8 (by first | omega | (simp; done) | (simp; omega)) | refine Below.then ?_ hb7 (by first | omega | (simp; done) | (simp; omega)) | refine Below.then ?_ hb6 (by first | omega | (simp; done) | (simp; omega)) | refine Below.then ?_ hb5 (by first | omega | (simp; done) | (simp; omega)) | refine Below.then ?_ hb4 (by first | omega | (simp; done) | (simp; omega)) | refine Below.then ?_ hb3 (by first | omega | (simp; done) | (simp; omega)) | refine Below.then ?_ hb2 (by first | omega | (simp; done) | (simp; omega)) | refine Below.then ?_ hb1 (by first | omega | (simp; done) | (simp; omega))))) (by first | omega | (simp; done) | (simp; omega))
    replace q4 := hold_cell (w2 := w3) q4 (by (repeat (first | exact Below.refl _ _ | (with_reducible assumption) | refine Below.drew ?_ | refine Below.drewN' ?_ _ | refine Below.alloc ?_ (by first | omega | (simp; done) | (simp; omega)) _ | refine Below.setCell ?_ (by first | omega | (simp; done) | (simp; omega)) _ | refine Below.then ?_ hb9 (by first | omega | (simp; done) | (simp; omega)) | refine Below.then ?_ hb8 (by first | omega | (simp; done) | (simp; omega)) | refine Below.then ?_ hb7 (by first | omega | (simp; done) | (simp; omega)) | refine Below.then ?_ hb6 (by first | omega | (simp; done) | (simp; omega)) | refine Below.then ?_ hb5 (by first | omega | (simp; done) | (simp; omega)) | refine Below.then ?_ hb4 (by first | omega | (simp; done) | (simp; omega)) | refine Below.then ?_ hb3 (by first | omega | (simp; done) | (simp; omega)) | refine Below.then ?_ hb2 (by first | omega | (simp; done) | (simp; omega)) | refine Below.then ?_ hb1 (by first | omega | (simp; done) | (simp; omega))))) (by first | omega | (simp; done) | (simp; omega))
    have l3 : w.heap.size < w3.heap.size := by omega
    have hb03 : Below w.heap.size w w3 := Below.then hb02 hb3 (by omega)
    clear HR2 HA2 HL2
    rcases walkE_is (t := t) (sp := sp) (ss := ss) (n := L.length) (s := s) (f := 0) (u := sp) with hE | hE | hE
    · obtain ⟨hr, hs1, _, _, _⟩ := walkE_ok hE
      obtain ⟨b1, b2, b3, b4, _⟩ := plan_ok hp
      have hsz : szP t sp = L.length := by
        have hr' := hr
        unfold rightP at hr'
        simp only [Bool.and_eq_true, decide_eq_true_eq] at hr'
        exact hr'.2
      have hsz' := hsz
      unfold szP at hsz'
      have hMd : walkR t sp ss L s 0 sp = walkL t sp ss L (3 + 2 * t + s * sp + sp) (3 + 2 * t + s * sp) := by
        unfold walkR
        rw [if_pos hE]
        simp only [Int.add_zero]
      rw [hE, hMd]
      rw [hMd] at hl3
      have hMl : (walkL t sp ss L (3 + 2 * t + s * sp + sp) (3 + 2 * t + s * sp)).length ≤ sp.toNat := Nat.le_trans (walkL_len _ _) (by omega)
      obtain ⟨M, hM⟩ : ∃ M, walkL t sp ss L (3 + 2 * t + s * sp + sp) (3 + 2 * t + s * sp) = M := ⟨_, rfl⟩
      rw [hM] at hl3 hMl ⊢
      have HM3 := Lib.hid hl3
      clear hl3 hMd
      have hMi : (M.length : Int) ≤ 4096 := by omega
      by_cases hc0 : cut < 0
      · go_wp2_with (first | (go_at_call 11; go_in) | (go_at_call 12; refine (WK.out _).mono ?_; rintro e4 w4 ⟨rfl, hb4⟩; have hz4 := hb4.size; (try simp at hz4)))
        go_ret
        exact ⟨rfl, Below.then hb03 hb4 (by omega)⟩
      by_cases hc1 : (M.length : Int) ≤ cut
      · go_wp2_with (first | (go_at_call 11; go_in) | (go_at_call 12; refine (WK.out _).mono ?_; rintro e4 w4 ⟨rfl, hb4⟩; have hz4 := hb4.size; (try simp at hz4)))
        go_ret
        exact ⟨rfl, Below.then hb03 hb4 (by omega)⟩
      have hs0 : ¬ s < 0 := by omega
      have hs2 : ¬ 1 < s := by omega
      have BS := Lib.hid (fun W => r7Base_calls t sp a c ss.length s (by omega) b1 b2 b3 b4 W)
      go_wp2_with (first | (go_at_call 11; go_in) | (go_at_call 17; refine (BS.out _).mono ?_; rintro e4 w4 ⟨rfl, hb4⟩; have hz4 := hb4.size; (try simp at hz4)))
      have hBl : 3 + 2 * t ≤ 3 + 2 * t + s * sp ∧ 3 + 2 * t + s * sp + sp ≤ 3 + 2 * t + 2 * sp := by
        have : s = 0 ∨ s = 1 := by omega
        rcases this with rfl | rfl <;> omega
      have OS := Lib.hid (fun x h0 h1 hz => obj_space (t := t) (sp := sp) (s := s) (ss := ss) (l := L) (x := x) b3 hs1 h0 h1 hz)
      have PW := Lib.hid (fun f (h2 : 0 ≤ f) (h4 : f ≤ sp) => walkE_go (ss := ss) (n := L.length) hr hs1 h2 (Int.le_refl sp) h4)
      have WR := Lib.hid (fun f (hf : walkE t sp ss L.length s f sp = 0) => (show walkR t sp ss L s f sp = walkL t sp ss L (3 + 2 * t + s * sp + sp) (3 + 2 * t + s * sp + f) by unfold walkR; rw [if_pos hf]))
      generalize 3 + 2 * t + s * sp = b at hM hBl OS WR
      have hb04 : Below w.heap.size w w4 := Below.then hb03 hb4 (by omega)
      have hB34 : Below w3.heap.size w3 w4 := hb4
      go_loopw [13, 14] (fun ev iv wr => ∃ (k : Nat) (y : Int), k ≤ M.length ∧ iv = .int .i64 k ∧ ev = .int .i64 y ∧ b ≤ y ∧ y ≤ b + sp ∧ M.drop k = walkL t sp ss L (b + sp) y ∧ Below w3.heap.size w3 wr) (fun _ iv _ => M.length - (intOf iv).toNat)
      case atStart => exact ⟨0, b, Nat.zero_le _, rfl, rfl, Int.le_refl _, by omega, by rw [hM]; rfl, hb4⟩
      case round =>
        obtain ⟨k, y, hk, rfl, rfl, hy0, hy1, hMk, hB⟩ := hrel
        have hzB := hB.size
        have hb0r : Below w.heap.size w wr := Below.then hb03 hB (by omega)
        have r0 := (hB.cell (p := ⟨w.heap.size, 0, none⟩) l3).trans q0
        have r1 := (hB.cell (p := ⟨w.heap.size, 1, none⟩) l3).trans q1
        have r2 := (hB.cell (p := ⟨w.heap.size, 2, none⟩) l3).trans q2
        by_cases hlt : k < M.length
        · obtain ⟨lb, lo, rfl, hlb, hlc⟩ := i64_at (show IntsOf w3 lf M from HM3.out) k hlt
          have r3 := (hB.cell (p := ⟨lb, lo + k, none⟩) hlb).trans hlc
          have i1 : (k : Int) < (M.length : Int) := by omega
          have i0 : (0 : Int) ≤ (k : Int) := by omega
          have lwA : w.heap.size < wr.heap.size := by omega
          have lbA : lb < wr.heap.size := by omega
          rw [List.drop_eq_getElem_cons hlt] at hMk
          obtain ⟨hz0, hz1', hzn, hMn⟩ := walkL_head _ _ _ _ (Nat.le_refl _) hMk.symm
          obtain ⟨n2, n10, hzu⟩ := OS.out M[k] (by omega) (by omega) hzn
          obtain ⟨hoE, hoF⟩ := obj_read hr (by omega) (by omega) (by omega) hzn (by omega)
          have RCk := Lib.hid (fun p b W h hs => RC.out p b M[k] W h hs)
          have HAd := Lib.hid (HA3.out.below hB).drew
          have HSd := Lib.hid (HL3.out.below hB).sh.drew
          have HAe := Lib.hid (fun o => ((HA3.out.below hB).alloc o).drew)
          have HSe := Lib.hid (fun o => ((HL3.out.below hB).sh.alloc o).drew)
          have hnx : ∀ j (hj : k + 1 = j) (h : j < M.length), M[j]? = some M[j] := fun j _ h => List.getElem?_eq_getElem h
          generalize hzk : M[k] = z at r3 RCk hlc hz0 hz1' hzn hMn n2 n10 hzu hoE hoF
          generalize hnk : sizeO t sp ss (wordAt L z) z = n at n2 n10 hzu hMn hoF
          have R1 := RCk.out
          unfold ReadPost objV at R1
          rw [hoE] at R1
          generalize rdA t sp ss L z = fA at R1
          generalize rdS t sp ss L z = fS at R1
          generalize rdM t sp ss L z = fM at R1
          generalize rdL t sp ss L z = fL at R1
          generalize rdF t sp ss L z = fF at R1 hoF
          have R1 := Lib.hid R1
          have hyz : ¬ z < y := by omega
          clear RCk hlc hoE
          have keepSA : ∀ A B : World, Below wr.heap.size A B → (A.cell? ⟨w.heap.size, 0, none⟩ = some (.int .i64 t) ∧ A.cell? ⟨w.heap.size, 1, none⟩ = some (.int .i64 sp) ∧ A.cell? ⟨w.heap.size, 2, none⟩ = some (.slice a ss.length c) ∧ A.cell? ⟨lb, lo + k, none⟩ = some (.int .i64 z) ∧ wr.heap.size ≤ A.heap.size) → (B.cell? ⟨w.heap.size, 0, none⟩ = some (.int .i64 t) ∧ B.cell? ⟨w.heap.size, 1, none⟩ = some (.int .i64 sp) ∧ B.cell? ⟨w.heap.size, 2, none⟩ = some (.slice a ss.length c) ∧ B.cell? ⟨lb, lo + k, none⟩ = some (.int .i64 z) ∧ wr.heap.size ≤ B.heap.size) := fun A B hb hc => ⟨(hb.cell (p := ⟨w.heap.size, 0, none⟩) lwA).trans hc.1, (hb.cell (p := ⟨w.heap.size, 1, none⟩) lwA).trans hc.2.1, (hb.cell (p := ⟨w.heap.size, 2, none⟩) lwA).trans hc.2.2.1, (hb.cell (p := ⟨lb, lo + k, none⟩) lbA).trans hc.2.2.2.1, Nat.le_trans hc.2.2.2.2 hb.size⟩
          have keepCA := Lib.hid (show ∀ A B : World, Below A.heap.size A B → (A.cell? ⟨w.heap.size, 0, none⟩ = some (.int .i64 t) ∧ A.cell? ⟨w.heap.size, 1, none⟩ = some (.int .i64 sp) ∧ A.cell? ⟨w.heap.size, 2, none⟩ = some (.slice a ss.length c) ∧ A.cell? ⟨lb, lo + k, none⟩ = some (.int .i64 z) ∧ wr.heap.size ≤ A.heap.size) → (B.cell? ⟨w.heap.size, 0, none⟩ = some (.int .i64 t) ∧ B.cell? ⟨w.heap.size, 1, none⟩ = some (.int .i64 sp) ∧ B.cell? ⟨w.heap.size, 2, none⟩ = some (.slice a ss.length c) ∧ B.cell? ⟨lb, lo + k, none⟩ = some (.int .i64 z) ∧ wr.heap.size ≤ B.heap.size) from fun A B hb hc => keepSA A B (hb.mono hc.2.2.2.2) hc)
          have keepAA := Lib.hid (show ∀ (A : World) (x0 : Obj), (A.cell? ⟨w.heap.size, 0, none⟩ = some (.int .i64 t) ∧ A.cell? ⟨w.heap.size, 1, none⟩ = some (.int .i64 sp) ∧ A.cell? ⟨w.heap.size, 2, none⟩ = some (.slice a ss.length c) ∧ A.cell? ⟨lb, lo + k, none⟩ = some (.int .i64 z) ∧ wr.heap.size ≤ A.heap.size) → ((A.alloc x0).cell? ⟨w.heap.size, 0, none⟩ = some (.int .i64 t) ∧ (A.alloc x0).cell? ⟨w.heap.size, 1, none⟩ = some (.int .i64 sp) ∧ (A.alloc x0).cell? ⟨w.heap.size, 2, none⟩ = some (.slice a ss.length c) ∧ (A.alloc x0).cell? ⟨lb, lo + k, none⟩ = some (.int .i64 z) ∧ wr.heap.size ≤ (A.alloc x0).heap.size) from fun A x0 hc => keepSA A _ ((Below.refl _ _).alloc hc.2.2.2.2 _) hc)
          have keepDA := Lib.hid (show (wr.drew.cell? ⟨w.heap.size, 0, none⟩ = some (.int .i64 t) ∧ wr.drew.cell? ⟨w.heap.size, 1, none⟩ = some (.int .i64 sp) ∧ wr.drew.cell? ⟨w.heap.size, 2, none⟩ = some (.slice a ss.length c) ∧ wr.drew.cell? ⟨lb, lo + k, none⟩ = some (.int .i64 z) ∧ wr.heap.size ≤ wr.drew.heap.size) from keepSA wr _ (Below.refl _ _).drew ⟨r0, r1, r2, r3, Nat.le_refl _⟩)
          have keepEA := Lib.hid (show ∀ (x0 : Obj), ((wr.alloc x0).drew.cell? ⟨w.heap.size, 0, none⟩ = some (.int .i64 t) ∧ (wr.alloc x0).drew.cell? ⟨w.heap.size, 1, none⟩ = some (.int .i64 sp) ∧ (wr.alloc x0).drew.cell? ⟨w.heap.size, 2, none⟩ = some (.slice a ss.length c) ∧ (wr.alloc x0).drew.cell? ⟨lb, lo + k, none⟩ = some (.int .i64 z) ∧ wr.heap.size ≤ (wr.alloc x0).drew.heap.size) from fun x0 => keepSA wr _ ((Below.refl _ _).alloc (Nat.le_refl _) _).drew ⟨r0, r1, r2, r3, Nat.le_refl _⟩)
          have keepTA := Lib.hid (show ∀ (A : World) (d : Nat) (v0 v1 v2 v3 v4 : Value), wr.heap.size ≤ d → (A.cell? ⟨w.heap.size, 0, none⟩ = some (.int .i64 t) ∧ A.cell? ⟨w.heap.size, 1, none⟩ = some (.int .i64 sp) ∧ A.cell? ⟨w.heap.size, 2, none⟩ = some (.slice a ss.length c) ∧ A.cell? ⟨lb, lo + k, none⟩ = some (.int .i64 z) ∧ wr.heap.size ≤ A.heap.size) → ((((((A.setCell ⟨d, 0, none⟩ v0).setCell ⟨d, 1, none⟩ v1).setCell ⟨d, 2, none⟩ v2).setCell ⟨d, 3, none⟩ v3).setCell ⟨d, 4, none⟩ v4).cell? ⟨w.heap.size, 0, none⟩ = some (.int .i64 t) ∧ (((((A.setCell ⟨d, 0, none⟩ v0).setCell ⟨d, 1, none⟩ v1).setCell ⟨d, 2, none⟩ v2).setCell ⟨d, 3, none⟩ v3).setCell ⟨d, 4, none⟩ v4).cell? ⟨w.heap.size, 1, none⟩ = some (.int .i64 sp) ∧ (((((A.setCell ⟨d, 0, none⟩ v0).setCell ⟨d, 1, none⟩ v1).setCell ⟨d, 2, none⟩ v2).setCell ⟨d, 3, none⟩ v3).setCell ⟨d, 4, none⟩ v4).cell? ⟨w.heap.size, 2, none⟩ = some (.slice a ss.length c) ∧ (((((A.setCell ⟨d, 0, none⟩ v0).setCell ⟨d, 1, none⟩ v1).setCell ⟨d, 2, none⟩ v2).setCell ⟨d, 3, none⟩ v3).setCell ⟨d, 4, none⟩ v4).cell? ⟨lb, lo + k, none⟩ = some (.int .i64 z) ∧ wr.heap.size ≤ (((((A.setCell ⟨d, 0, none⟩ v0).setCell ⟨d, 1, none⟩ v1).setCell ⟨d, 2, none⟩ v2).setCell ⟨d, 3, none⟩ v3).setCell ⟨d, 4, none⟩ v4).heap.size) from fun A d v0 v1 v2 v3 v4 hd hc => keepSA A _ (((((Below.refl _ _).setCell hd _).setCell hd _).setCell hd _).setCell hd _ |>.setCell hd _) hc)
          have keepMA := Lib.hid (show ∀ (A : World) (x0 x1 : Obj), wr.heap.size ≤ A.heap.size → ((A.alloc x0).cell? ⟨w.heap.size, 0, none⟩ = some (.int .i64 t) ∧ (A.alloc x0).cell? ⟨w.heap.size, 1, none⟩ = some (.int .i64 sp) ∧ (A.alloc x0).cell? ⟨w.heap.size, 2, none⟩ = some (.slice a ss.length c) ∧ (A.alloc x0).cell? ⟨lb, lo + k, none⟩ = some (.int .i64 z) ∧ wr.heap.size ≤ (A.alloc x0).heap.size) → ((A.alloc x1).cell? ⟨w.heap.size, 0, none⟩ = some (.int .i64 t) ∧ (A.alloc x1).cell? ⟨w.heap.size, 1, none⟩ = some (.int .i64 sp) ∧ (A.alloc x1).cell? ⟨w.heap.size, 2, none⟩ = some (.slice a ss.length c) ∧ (A.alloc x1).cell? ⟨lb, lo + k, none⟩ = some (.int .i64 z) ∧ wr.heap.size ≤ (A.alloc x1).heap.size) from fun A x0 x1 hle hc => keepSA (A.alloc x0) _ ⟨rfl, rfl, rfl, by simp, fun k hk => by rw [Below.heap_alloc _ _ _ (by omega), Below.heap_alloc _ _ _ (by omega)]⟩ hc)
          clear keepSA
          go_wp2_with fail
          refine Code.wp_mono (Q := fun e a W => e = Exit.normal ∧ ∃ (XA : Nat) (faA : Option Addr) (fcA : Nat), a = (?frameOfA : Nat → Option Addr → Nat → Act) XA faA fcA ∧ (W.cell? ⟨XA, 0, none⟩ = some (.int .i64 fA) ∧ W.cell? ⟨XA, 1, none⟩ = some (.int .i64 fS) ∧ W.cell? ⟨XA, 2, none⟩ = some (.int .i64 fM) ∧ W.cell? ⟨XA, 3, none⟩ = some (.int .u64 fL) ∧ W.cell? ⟨XA, 4, none⟩ = some (.slice faA fF.length fcA) ∧ WdsOf W faA fF ∧ wr.heap.size ≤ XA ∧ XA < W.heap.size ∧ Below wr.heap.size wr W)) ?impA ?regA
          case regA =>
            go_region_held3 (fun A => (A.cell? ⟨w.heap.size, 0, none⟩ = some (.int .i64 t) ∧ A.cell? ⟨w.heap.size, 1, none⟩ = some (.int .i64 sp) ∧ A.cell? ⟨w.heap.size, 2, none⟩ = some (.slice a ss.length c) ∧ A.cell? ⟨lb, lo + k, none⟩ = some (.int .i64 z) ∧ wr.heap.size ≤ A.heap.size)) (first | (with_reducible exact keepDA.out) | (with_reducible exact keepEA.out _) | (with_reducible refine keepTA.out _ _ _ _ _ _ _ ?_ ?_; (first | omega | (simp; omega)); assumption) | (with_reducible refine keepCA.out _ _ hb5 ?_; assumption) | (with_reducible refine keepMA.out _ _ _ ?_ (by assumption); first | omega | (simp; omega)) | (with_reducible exact keepAA.out _ _ (by assumption)) | exact keepDA.out) (first | (go_at_call 18; refine (R1.out _ _ _ (by first | with_reducible exact HAd.out | with_reducible exact HAe.out _) (by first | with_reducible exact HSd.out | with_reducible exact HSe.out _)).mono ?_; rintro e5 w5 ⟨ga5, gc5, rfl, hf5, hfr5, hb5⟩; have hz5 := hb5.size; (try simp at hz5); (try (have zc := fun j => hb5.cell (p := ⟨wr.heap.size, j, none⟩) (by simp); have zf := fun j => hb5.frozen (p := ⟨wr.heap.size, j, none⟩) (by simp); have zq0 := zc 0; have zq1 := zc 1; have zq2 := zc 2; have zq3 := zc 3; have zq4 := zc 4; have zf0 := zf 0; have zf1 := zf 1; have zf2 := zf 2; have zf3 := zf 3; have zf4 := zf 4; simp [go_sem] at zq0 zq1 zq2 zq3 zq4 zf0 zf1 zf2 zf3 zf4; have zl : wr.heap.size < w5.heap.size := (by omega); clear zc zf))))
            · obtain ⟨X, hX⟩ : ∃ X, w5.heap.size = X := ⟨_, rfl⟩
              have hB4 : Below wr.heap.size wr (w5.alloc (.cells #[.int .i64 fA, .int .i64 fS, .int .i64 fM, .int .u64 fL, .slice ga5 fF.length gc5] 52)) := ((Below.refl _ _).drew.trans hb5).alloc hz5 _
              refine ⟨rfl, X, ga5, gc5, ?_, ⟨by rw [← hX]; simp [go_sem], by rw [← hX]; simp [go_sem], by rw [← hX]; simp [go_sem], by rw [← hX]; simp [go_sem], by rw [← hX]; simp [go_sem], SlOf.alloc hf5 _, by omega, by simp; omega, hB4⟩⟩
              rw [hX]
            · obtain ⟨X, hX⟩ : ∃ X, wr.heap.size = X := ⟨_, rfl⟩
              have hB3 : Below wr.heap.size wr w5 := ((Below.refl _ _).alloc (Nat.le_refl _) _).drew.trans (hb5.mono (by simp))
              have hB4 := ((((hB3.setCell (p := ⟨wr.heap.size, 0, none⟩) (Nat.le_refl _) (.int .i64 fA)).setCell (p := ⟨wr.heap.size, 1, none⟩) (Nat.le_refl _) (.int .i64 fS)).setCell (p := ⟨wr.heap.size, 2, none⟩) (Nat.le_refl _) (.int .i64 fM)).setCell (p := ⟨wr.heap.size, 3, none⟩) (Nat.le_refl _) (.int .u64 fL)).setCell (p := ⟨wr.heap.size, 4, none⟩) (Nat.le_refl _) (.slice ga5 fF.length gc5)
              have hne : ∀ ad, ga5 = some ad → ad.block ≠ wr.heap.size := fun ad e => by have := hfr5 ad e; simp at this; omega
              have hW4 := SlOf.put (SlOf.put (SlOf.put (SlOf.put (SlOf.put hf5 hne 0 (.int .i64 fA)) hne 1 (.int .i64 fS)) hne 2 (.int .i64 fM)) hne 3 (.int .u64 fL)) hne 4 (.slice ga5 fF.length gc5)
              refine ⟨rfl, X, ga5, gc5, ?_, ⟨?_, ?_, ?_, ?_, ?_, hW4, by omega, by simp; omega, hB4⟩⟩
              · rw [hX]
              all_goals (rw [← hX]; simp [cell_off, cell_put, zq0, zq1, zq2, zq3, zq4])
          case impA =>
            rintro e ac WA ⟨rfl, XA, faA, fcA, rfl, x0, x1, x2, x3, x4, hWdA, hX0A, hX1A, hBA⟩
            have hzA := hBA.size
            replace r0 := (hBA.cell (p := ⟨w.heap.size, 0, none⟩) lwA).trans r0
            replace r1 := (hBA.cell (p := ⟨w.heap.size, 1, none⟩) lwA).trans r1
            replace r2 := (hBA.cell (p := ⟨w.heap.size, 2, none⟩) lwA).trans r2
            replace r3 := (hBA.cell (p := ⟨lb, lo + k, none⟩) lbA).trans r3
            have hzw2 : IntKind.i64.wrap (z + 2) = z + 2 := IntWalk.i64_in _ (by omega)
            have hzwf : IntKind.i64.wrap (z + 2 + (fF.length : Int)) = z + 2 + (fF.length : Int) := IntWalk.i64_in _ (by omega)
            have hzwb : IntKind.i64.wrap (z + 2 + (fF.length : Int) - b) = z + 2 + (fF.length : Int) - b := IntWalk.i64_in _ (by omega)
            have hMn' : M.drop (k + 1) = walkL t sp ss L (b + sp) (z + 2 + (fF.length : Int)) := by rw [hMn]; congr 1; omega
            go_wp2_with (first | (go_at_call 11; go_in))
            go_quiet (fail)
            rename_i nq
            have hHAd := Lib.hid (((HA3.out.below hB).below hBA).drewN nq)
            have hHSd := Lib.hid (((HL3.out.below hB).below hBA).sh.drewN nq)
            have hBAd : Below wr.heap.size wr (WA.drewN nq) := hBA.trans (Below.drewN' (Below.refl _ _) _)
            have hB3d : Below w3.heap.size w3 (WA.drewN nq) := Below.then hB hBAd hzB
            have hszd : WA.heap.size ≤ (WA.drewN nq).heap.size := (Below.drewN' (Below.refl WA.heap.size WA) nq).size
            replace r0 := hold_cell r0 (Below.drewN' (Below.refl WA.heap.size WA) nq) (by first | omega | (show w.heap.size < _; omega))
            replace r1 := hold_cell r1 (Below.drewN' (Below.refl WA.heap.size WA) nq) (by first | omega | (show w.heap.size < _; omega))
            replace r2 := hold_cell r2 (Below.drewN' (Below.refl WA.heap.size WA) nq) (by first | omega | (show w.heap.size < _; omega))
            replace r3 := hold_cell r3 (Below.drewN' (Below.refl WA.heap.size WA) nq) (by show lb < _; omega)
            generalize WA.drewN nq = WD at hHAd hHSd hBAd hB3d hszd r0 r1 r2 r3 ⊢
            by_cases hkc : (k : Int) = cut
            · have hE6 := PW.out (z + 2 + (fF.length : Int) - b) (by omega) (by omega)
              have hR6 := WR.out _ hE6
              rw [show b + (z + 2 + (fF.length : Int) - b) = z + 2 + (fF.length : Int) by omega, ← hMn'] at hR6
              have hkb : ((k : Int) == cut) = true := beq_iff_eq.2 hkc
              have hDl0 : (M.length : Int) - (k : Int) - 1 = (M.length : Int) - cut - 1 := by rw [hkc]
              have hct : 0 ≤ cut ∧ cut < (M.length : Int) := by omega
              obtain ⟨j, hj⟩ : ∃ j : Nat, j = k + 1 := ⟨_, rfl⟩
              have hwj : IntKind.i64.wrap (cut + 1) = ((j : Nat) : Int) := (IntWalk.i64_in _ (by omega)).trans (by omega)
              have HKC := Lib.hid hkc
              clear hkc
              go_wp2_with fail
              refine (PC.out _ _ s (z + 2 + (fF.length : Int) - b) sp WD hHAd.out hHSd.out).mono ?_
              rintro e6 w6 ⟨mf, mc, rfl, hm6, hb6⟩
              rw [hE6, hR6]
              rw [hR6] at hm6
              have hDl : ((M.drop (k + 1)).length : Int) = (M.length : Int) - cut - 1 := by rw [← hDl0, List.length_drop]; omega
              have hD0 : (M.drop (k + 1))[0]? = M[k + 1]? := by rw [List.getElem?_drop]
              have hDr : M.drop (k + 1) = M.drop (k + 1) := rfl
              clear hMn
              obtain ⟨D, hDD⟩ : ∃ D, M.drop (k + 1) = D := ⟨_, rfl⟩
              rw [hDD] at hm6 hDl hD0 ⊢
              have HD6 := Lib.hid hm6
              clear hm6 hDr
              have hDe : ((D.length : Int) == (M.length : Int) - cut - 1) = true := beq_iff_eq.2 hDl
              have hDn : ((D.length : Int) != (M.length : Int) - cut - 1) = false := by rw [bne_eq_false_iff_eq]; exact hDl
              have HDl := Lib.hid hDl
              clear hDl
              have hw136 : IntKind.i64.wrap ((M.length : Int) - cut) = (M.length : Int) - cut := IntWalk.i64_in _ (by omega)
              have hw137 : IntKind.i64.wrap ((M.length : Int) - cut - 1) = (M.length : Int) - cut - 1 := IntWalk.i64_in _ (by omega)
              have hB36 : Below w3.heap.size w3 w6 := Below.then hB3d hb6 (by omega)
              have hz6 := hb6.size
              have r3' := (hb6.cell (p := ⟨lb, lo + k, none⟩) (by show lb < _; omega)).trans r3
              clear hDl0
              by_cases hD1 : (0 : Int) < (D.length : Int)
              · obtain ⟨mb, mo, rfl, hmb, hmc⟩ := i64_at (show IntsOf w6 mf D from HD6.out) 0 (by omega)
                have hDg : decide ((D.length : Int) > 0) = true := decide_eq_true hD1
                have hDh : decide ((0 : Int) < (D.length : Int)) = true := decide_eq_true hD1
                have hjl : j < M.length := by have := HDl.out; have := HKC.out; omega
                obtain ⟨lb', lo', hlb', hlb2, hlc2⟩ := i64_at (show IntsOf w3 (some ⟨lb, lo, none⟩) M from HM3.out) j hjl
                injection hlb' with hlb'
                injection hlb' with h1 h2
                subst h1 h2
                have hDM : D[0]'(by omega) = M[j] := by
                  rw [List.getElem?_eq_getElem (by omega), ← hj, List.getElem?_eq_getElem hjl] at hD0
                  exact Option.some.inj hD0
                rw [hDM] at hmc
                have hlc6 := (hB36.cell (p := ⟨lb, lo + j, none⟩) hlb2).trans hlc2
                generalize M[j] = xx at hmc hlc6
                have hj1 : (j : Int) < (M.length : Int) := by omega
                have hj0 : (0 : Int) ≤ (j : Int) := by omega
                have hmc : w6.cell? ⟨mb, mo, none⟩ = some (.int .i64 xx) := hmc
                have HJ := Lib.hid hj
                obtain ⟨dn, hdn⟩ : ∃ dn, D.length = dn := ⟨_, rfl⟩
                rw [hdn] at hD1 hDe hDn ⊢
                have hdn0 : 0 < dn := by omega
                have hdnd : decide (0 < dn) = true := decide_eq_true hdn0
                have hdne : decide ((0 : Int) < (dn : Int)) = true := decide_eq_true hD1
                have hDf : ¬ (dn : Int) < 1 := by omega
                clear hdn hj hDg hDh
                go_wp2_with fail
                go_region_held3 (fun A => A.cell? ⟨mb, mo, none⟩ = some (.int .i64 xx) ∧ A.cell? ⟨lb, lo + j, none⟩ = some (.int .i64 xx)) (first | (with_reducible exact ⟨hmc, hlc6⟩) | (with_reducible assumption) | exact ⟨hmc, hlc6⟩) (first | (go_at_call 11; go_in))
                all_goals
                  go_wp2_with fail
                  go_roundw
                  case rel => exact ⟨k + 1, z + 2 + (fF.length : Int), by omega, by go_num, rfl, by omega, by omega, hMn', Below.then hB3d (hb6.trans (Below.refl _ _).drew) (by omega)⟩
                  case measure => simp [intOf]; omega
              · have hdn : D.length = 0 := by omega
                rw [hdn] at hDe hDn ⊢
                have hDn0 : ((0 : Int) != (M.length : Int) - cut - 1) = false := hDn
                have hDe0 : ((0 : Int) == (M.length : Int) - cut - 1) = true := hDe
                clear hD1 hdn hwj hj hD0
                go_wp2_with fail
                go_quiet (first | (go_at_call 11; exact Calls.quiet_of_same (num7_same _ _)))
                go_wp2_with fail
                go_roundw
                case rel => exact ⟨k + 1, z + 2 + (fF.length : Int), by omega, by go_num, rfl, by omega, by omega, hMn', Below.then hB3d (hb6.trans (Below.drewN' (Below.refl _ _) _)) (by omega)⟩
                case measure => simp [intOf]; omega
            · go_wp2_with fail
              go_roundw
              case rel => exact ⟨k + 1, z + 2 + (fF.length : Int), by omega, by go_num, rfl, by omega, by omega, hMn', hB3d⟩
              case measure => simp [intOf]; omega

        · obtain rfl : k = M.length := by omega
          go_wp2_with (first | (go_at_call 11; go_in) | (go_at_call 12; refine (WK.out _).mono ?_; rintro e5 w5 ⟨rfl, hb5⟩; have hz5 := hb5.size; (try simp at hz5)))
          go_ret
          exact ⟨by simp, Below.then hb0r hb5 (by omega)⟩
    all_goals
      rw [hE]
      go_wp2_with (first | (go_at_call 11; go_in) | (go_at_call 12; refine (WK.out _).mono ?_; rintro e4 w4 ⟨rfl, hb4⟩; have hz4 := hb4.size; (try simp at hz4)))
      go_ret
      exact ⟨rfl, Below.then hb03 hb4 (by omega)⟩
end Go.Proofs.Ytiodkcecpnomcaa
