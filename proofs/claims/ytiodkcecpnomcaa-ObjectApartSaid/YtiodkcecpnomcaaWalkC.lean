/- The layer 'object': Walk, whatever it is asked; the reference's Walk. -/
import Derived.Test.YtiodkcecpnomcaaWalkB
import Derived.Test.YtiodkcecpnomcaaObjS
namespace Go.Proofs.Ytiodkcecpnomcaa
open Go.RowKit
set_option linter.unusedVariables false
set_option linter.unusedSimpArgs false

def walkE (t sp : Int) (ss : List ByteArray) (n : Nat) (s f u : Int) : Int := if rightP t sp ss n = true then (if walkB sp s f u = true then 0 else 4) else 2
def walkR (t sp : Int) (ss : List ByteArray) (l : List Int) (s f u : Int) : List Int := if walkE t sp ss l.length s f u = 0 then walkL t sp ss l (3 + 2 * t + s * sp + u) (3 + 2 * t + s * sp + f) else []
def WalkPost (t sp : Int) (ss : List ByteArray) (l : List Int) (s f u : Int) (w : World) (e : Ending) (w' : World) : Prop :=
  ∃ fa fc, e = .returned (.tuple #[.slice fa (walkR t sp ss l s f u).length fc, .int .i64 (walkE t sp ss l.length s f u)]) ∧ IntsOf w' fa (walkR t sp ss l s f u) ∧ Below w.heap.size w w'
theorem walkPost_no {t sp : Int} {ss : List ByteArray} {l : List Int} {s f u k : Int} {w w' : World} {e : Ending} (hk : walkE t sp ss l.length s f u = k) (h0 : k ≠ 0)
    (he : e = .returned (.tuple #[.slice none 0 0, .int .i64 k]) ∧ Below w.heap.size w w') : WalkPost t sp ss l s f u w e w' := by
  have e1 : walkR t sp ss l s f u = [] := by unfold walkR; rw [if_neg (by rw [hk]; exact h0)]
  unfold WalkPost
  rw [e1, hk]
  exact ⟨none, 0, he.1, .inl rfl, he.2⟩
theorem walk_calls (p b : Nat) (l : List Int) (t sp : Int) (a : Option Addr) (c : Nat) (ss : List ByteArray) (s f u : Int) (hn : ss.length ≤ maxLen) (w : World) (h : Ar w p b l) (hs : SlOf w a (strV ss)) :
    Calls Try.prog 15 #[.pointer (some ⟨p, 0, none⟩), .agg #[.int .i64 t, .int .i64 sp, .slice a ss.length c], .int .i64 s, .int .i64 f, .int .i64 u] w (WalkPost t sp ss l s f u w) := by
  by_cases hr : rightP t sp ss l.length = true
  · have hr' := hr
    unfold rightP at hr'
    simp only [Bool.and_eq_true, decide_eq_true_eq] at hr'
    have hP : PIn w p b l t sp a ss := ⟨h, hs, hn, hr'.1, hr'.2⟩
    cases hb : walkB sp s f u with
    | false =>
      have e1 : walkE t sp ss l.length s f u = 4 := by unfold walkE; rw [if_pos hr, hb]; rfl
      exact (walk_range p b l t sp a c ss s f u hb w hP).mono fun _ _ he => walkPost_no e1 (by decide) he
    | true =>
      have e1 : walkE t sp ss l.length s f u = 0 := by unfold walkE; rw [if_pos hr, hb]; rfl
      have e2 : walkR t sp ss l s f u = walkL t sp ss l (3 + 2 * t + s * sp + u) (3 + 2 * t + s * sp + f) := by unfold walkR; rw [if_pos e1]
      unfold WalkPost
      rw [e1, e2]
      exact walk_ok p b l t sp a c ss s f u hb w hP
  · have e1 : walkE t sp ss l.length s f u = 2 := by unfold walkE; rw [if_neg hr]
    refine (walk_of (some ⟨p, 0, none⟩) t sp a c ss.length s f u 2 w fun W hb => ?_).mono fun _ _ he => walkPost_no e1 (by decide) he
    refine of_bad p b l t sp a c ss hn W (h.below hb) (hs.below hb) fun hc => hr ?_
    unfold rightP
    rw [hc.1, decide_eq_true hc.2]
    rfl

set_option maxRecDepth 100000 in
set_option maxHeartbeats 3200000 in
theorem r7Walk_calls (la : Option Addr) (lc : Nat) (l : List Int) (t sp : Int) (a : Option Addr) (c : Nat) (ss : List ByteArray) (s f u : Int) (w : World) (h : RIn w la l a ss) :
    Calls Try.prog 16 #[.slice la l.length lc, .agg #[.int .i64 t, .int .i64 sp, .slice a ss.length c], .int .i64 s, .int .i64 f, .int .i64 u] w (WalkPost t sp ss l s f u w) := by
  have hR := fun W (h : RIn W la l a ss) => r7Right_calls la lc l.length t sp a c ss h.fit W h.sh
  have HH := Lib.hid h
  by_cases hr : rightP t sp ss l.length = true
  case neg =>
    have e1 : walkE t sp ss l.length s f u = 2 := by unfold walkE; rw [if_neg hr]
    refine Calls.mono ?_ fun _ _ he => walkPost_no e1 (by decide) he
    rw [Bool.not_eq_true] at hr
    rw [hr] at hR
    have HR := Lib.hid hR
    clear hR hr e1 h
    go_enter Try.func16, Try.ntmps16
    go_wp2_with fail
    refine (HR.out _ (HH.out.alloc _)).mono ?_; rintro e1 w1 ⟨rfl, hb1⟩; have hz1 := hb1.size; (try simp at hz1)
    go_wp2
    go_ret2
    exact ⟨rfl, by (repeat (first | exact Below.refl _ _ | (with_reducible assumption) | refine Below.drew ?_ | refine Below.drewN' ?_ _ | refine Below.alloc ?_ (by first | omega | (simp; done) | (simp; omega)) _ | refine Below.setCell ?_ (by first | omega | (simp; done) | (simp; omega)) _ | refine Below.then ?_ hb9 (by first | omega | (simp; done) | (simp; omega)) | refine Below.then ?_ hb8 (by first | omega | (simp; done) | (simp; omega)) | refine Below.then ?_ hb7 (by first | omega | (simp; done) | (simp; omega)) | refine Below.then ?_ hb6 (by first | omega | (simp; done) | (simp; omega)) | refine Below.then ?_ hb5 (by first | omega | (simp; done) | (simp; omega)) | refine Below.then ?_ hb4 (by first | omega | (simp; done) | (simp; omega)) | refine Below.then ?_ hb3 (by first | omega | (simp; done) | (simp; omega)) | refine Below.then ?_ hb2 (by first | omega | (simp; done) | (simp; omega)) | refine Below.then ?_ hb1 (by first | omega | (simp; done) | (simp; omega))))⟩
  have hr' := hr
  unfold rightP at hr'
  simp only [Bool.and_eq_true, decide_eq_true_eq] at hr'
  obtain ⟨b1, b2, b3, b4, _⟩ := plan_ok hr'.1
  rw [hr] at hR
  have HR := Lib.hid hR
  clear hR
  cases hb : walkB sp s f u with
  | false =>
    have e1 : walkE t sp ss l.length s f u = 4 := by unfold walkE; rw [if_pos hr, hb]; rfl
    refine Calls.mono ?_ fun _ _ he => walkPost_no e1 (by decide) he
    have hrr : s < 0 ∨ (¬ s < 0 ∧ (1 < s ∨ (¬ 1 < s ∧ (f < 0 ∨ (¬ f < 0 ∧ (sp < u ∨ (¬ sp < u ∧ u < f))))))) := by
      unfold walkB at hb
      simp only [Bool.and_eq_false_iff, decide_eq_false_iff_not] at hb
      omega
    clear hr hr' h hb e1
    rcases hrr with hs | ⟨hs, hs1 | ⟨hs1, hf | ⟨hf, hu | ⟨hu, hfu⟩⟩⟩⟩
    all_goals (
      go_enter Try.func16, Try.ntmps16
      go_wp2_with fail
      refine (HR.out _ (HH.out.alloc _)).mono ?_; rintro e1 w1 ⟨rfl, hb1⟩; obtain ⟨hc1, hf1⟩ := bcell hb1; have hz1 := hb1.size; (try simp at hz1)
      have q1 := hc1 w.heap.size 1 (by first | omega | (simp; done) | (simp; omega)); simp [go_sem] at q1
      go_wp2
      go_ret2
      exact ⟨rfl, by (repeat (first | exact Below.refl _ _ | (with_reducible assumption) | refine Below.drew ?_ | refine Below.drewN' ?_ _ | refine Below.alloc ?_ (by first | omega | (simp; done) | (simp; omega)) _ | refine Below.setCell ?_ (by first | omega | (simp; done) | (simp; omega)) _ | refine Below.then ?_ hb9 (by first | omega | (simp; done) | (simp; omega)) | refine Below.then ?_ hb8 (by first | omega | (simp; done) | (simp; omega)) | refine Below.then ?_ hb7 (by first | omega | (simp; done) | (simp; omega)) | refine Below.then ?_ hb6 (by first | omega | (simp; done) | (simp; omega)) | refine Below.then ?_ hb5 (by first | omega | (simp; done) | (simp; omega)) | refine Below.then ?_ hb4 (by first | omega | (simp; done) | (simp; omega)) | refine Below.then ?_ hb3 (by first | omega | (simp; done) | (simp; omega)) | refine Below.then ?_ hb2 (by first | omega | (simp; done) | (simp; omega)) | refine Below.then ?_ hb1 (by first | omega | (simp; done) | (simp; omega))))⟩)
  | true =>
    have e1 : walkE t sp ss l.length s f u = 0 := by unfold walkE; rw [if_pos hr, hb]; rfl
    have e2 : walkR t sp ss l s f u = walkL t sp ss l (3 + 2 * t + s * sp + u) (3 + 2 * t + s * sp + f) := by unfold walkR; rw [if_pos e1]
    unfold WalkPost
    rw [e1, e2]
    unfold walkB at hb
    simp only [Bool.and_eq_true, decide_eq_true_eq] at hb
    obtain ⟨⟨⟨⟨s0, s1⟩, f0⟩, u1⟩, fu⟩ := hb
    have hm : 0 ≤ s * sp ∧ s * sp ≤ sp := by
      have : s = 0 ∨ s = 1 := by omega
      rcases this with rfl | rfl
      · omega
      · omega
    have BS := fun W => r7Base_calls t sp a c ss.length s (by omega) b1 b2 b3 b4 W
    have hll := hr'.2
    have hl4 := h.len
    have SZ : ∀ (i : Nat) (W : World), RIn W la l a ss → 3 + 2 * t ≤ (i : Int) → (i : Int) < 3 + 2 * t + s * sp + u → Calls Try.prog 34 #[.slice la l.length lc, .agg #[.int .i64 t, .int .i64 sp, .slice a ss.length c], .int .i64 (i : Int)] W fun e w' => e = .returned (.int .i64 (sizeO t sp ss (wordAt l i) i)) ∧ Below W.heap.size W w' := by
      intro i W hh hi0 hu
      have hsz : (i : Int) < szP t sp := by unfold szP; omega
      have hil : i < l.length := by omega
      have hw : wordAt l (i : Int) = l[i] := by unfold wordAt; rw [Int.toNat_natCast, List.getD_eq_getElem?_getD, List.getElem?_eq_getElem hil]; rfl
      rw [hw]
      exact r7Size_calls la lc l hh.rng hh.len t sp a c ss i hh.fit hr'.1 hi0 hsz hil W hh.wds hh.sh
    generalize hbv : 3 + 2 * t + s * sp = bv at BS SZ
    have hbv0 : 3 + 2 * t ≤ bv ∧ bv ≤ 3 + 2 * t + sp := by omega
    have hlw : (walkL t sp ss l (bv + u) (bv + f)).length ≤ 4096 := by
      have : (walkL t sp ss l (bv + u) (bv + f)).length ≤ ((bv + u) - (bv + f)).toNat := walkL_len _ _
      omega
    obtain ⟨i0, hi0, hi0z, hi0s, hi0b⟩ := info_parts infoInt
    have BS := Lib.hid BS
    have SZ := Lib.hid SZ
    clear hr hr' h e1 e2
    go_enter Try.func16, Try.ntmps16
    go_wp2_with fail
    refine (HR.out _ (HH.out.alloc _)).mono ?_; rintro e1 w1 ⟨rfl, hb1⟩; obtain ⟨hc1, hf1⟩ := bcell hb1; have hz1 := hb1.size; (try simp at hz1)
    have q0 := hc1 w.heap.size 0 (by first | omega | (simp; done) | (simp; omega)); simp [go_sem] at q0
    have q1 := hc1 w.heap.size 1 (by first | omega | (simp; done) | (simp; omega)); simp [go_sem] at q1
    have q2 := hc1 w.heap.size 2 (by first | omega | (simp; done) | (simp; omega)); simp [go_sem] at q2
    have l1 : w.heap.size < w1.heap.size := by first | omega | (simp; done) | (simp; omega)
    go_wp2_with fail
    refine (BS.out _).mono ?_; rintro e2 w2 ⟨rfl, hb2⟩; have hz2 := hb2.size; (try simp at hz2)
    replace q0 := hold_cell (w2 := w2) q0 (by (repeat (first | exact Below.refl _ _ | (with_reducible assumption) | refine Below.drew ?_ | refine Below.drewN' ?_ _ | refine Below.alloc ?_ (by first | omega | (simp; done) | (simp; omega)) _ | refine Below.setCell ?_ (by first | omega | (simp; done) | (simp; omega)) _ | refine Below.then ?_ hb9 (by first | omega | (simp; done) | (simp; omega)) | refine Below.then ?_ hb8 (by first | omega | (simp; done) | (simp; omega)) | refine Below.then ?_ hb7 (by first | omega | (simp; done) | (simp; omega)) | refine Below.then ?_ hb6 (by first | omega | (simp; done) | (simp; omega)) | refine Below.then ?_ hb5 (by first | omega | (simp; done) | (simp; omega)) | refine Below.then ?_ hb4 (by first | omega | (simp; done) | (simp; omega)) | refine Below.then ?_ hb3 (by first | omega | (simp; done) | (simp; omega)) | refine Below.then ?_ hb2 (by first | omega | (simp; done) | (simp; omega)) | refine Below.then ?_ hb1 (by first | omega | (simp; done) | (simp; omega))))) (by first | omega | (simp; done) | (simp; omega))
    replace q1 := hold_cell (w2 := w2) q1 (by (repeat (first | exact Below.refl _ _ | (with_reducible assumption) | refine Below.drew ?_ | refine Below.drewN' ?_ _ | refine Below.alloc ?_ (by first | omega | (simp; done) | (simp; omega)) _ | refine Below.setCell ?_ (by first | omega | (simp; done) | (simp; omega)) _ | refine Below.then ?_ hb9 (by first | omega | (simp; done) | (simp; omega)) | refine Below.then ?_ hb8 (by first | omega | (simp; done) | (simp; omega)) | refine Below.then ?_ hb7 (by first | omega | (simp; done) | (simp; omega)) | refine Below.then ?_ hb6 (by first | omega | (simp; done) | (simp; omega)) | refine Below.then ?_ hb5 (by first | omega | (simp; done) | (simp; omega)) | refine Below.then ?_ hb4 (by first | omega | (simp; done) | (simp; omega)) | refine Below.then ?_ hb3 (by first | omega | (simp; done) | (simp; omega)) | refine Below.then ?_ hb2 (by first | omega | (simp; done) | (simp; omega)) | refine Below.then ?_ hb1 (by first | omega | (simp; done) | (simp; omega))))) (by first | omega | (simp; done) | (simp; omega))
    replace q2 := hold_cell (w2 := w2) q2 (by (repeat (first | exact Below.refl _ _ | (with_reducible assumption) | refine Below.drew ?_ | refine Below.drewN' ?_ _ | refine Below.alloc ?_ (by first | omega | (simp; done) | (simp; omega)) _ | refine Below.setCell ?_ (by first | omega | (simp; done) | (simp; omega)) _ | refine Below.then ?_ hb9 (by first | omega | (simp; done) | (simp; omega)) | refine Below.then ?_ hb8 (by first | omega | (simp; done) | (simp; omega)) | refine Below.then ?_ hb7 (by first | omega | (simp; done) | (simp; omega)) | refine Below.then ?_ hb6 (by first | omega | (simp; done) | (simp; omega)) | refine Below.then ?_ hb5 (by first | omega | (simp; done) | (simp; omega)) | refine Below.then ?_ hb4 (by first | omega | (simp; done) | (simp; omega)) | refine Below.then ?_ hb3 (by first | omega | (simp; done) | (simp; omega)) | refine Below.then ?_ hb2 (by first | omega | (simp; done) | (simp; omega)) | refine Below.then ?_ hb1 (by first | omega | (simp; done) | (simp; omega))))) (by first | omega | (simp; done) | (simp; omega))
    have hb02 : Below w.heap.size w w2 := by (repeat (first | exact Below.refl _ _ | (with_reducible assumption) | refine Below.drew ?_ | refine Below.drewN' ?_ _ | refine Below.alloc ?_ (by first | omega | (simp; done) | (simp; omega)) _ | refine Below.setCell ?_ (by first | omega | (simp; done) | (simp; omega)) _ | refine Below.then ?_ hb9 (by first | omega | (simp; done) | (simp; omega)) | refine Below.then ?_ hb8 (by first | omega | (simp; done) | (simp; omega)) | refine Below.then ?_ hb7 (by first | omega | (simp; done) | (simp; omega)) | refine Below.then ?_ hb6 (by first | omega | (simp; done) | (simp; omega)) | refine Below.then ?_ hb5 (by first | omega | (simp; done) | (simp; omega)) | refine Below.then ?_ hb4 (by first | omega | (simp; done) | (simp; omega)) | refine Below.then ?_ hb3 (by first | omega | (simp; done) | (simp; omega)) | refine Below.then ?_ hb2 (by first | omega | (simp; done) | (simp; omega)) | refine Below.then ?_ hb1 (by first | omega | (simp; done) | (simp; omega))))
    go_wp2_with fail
    go_loopw [12, 14, 15] (fun out xv _ wr => ∃ (x : Int) (pre : List Int), xv = .int .i64 x ∧ f ≤ x ∧ x ≤ u + 16 ∧ pre ++ walkL t sp ss l (bv + u) (bv + x) = walkL t sp ss l (bv + u) (bv + f) ∧ wr.ownsRow w2.heap.size 3 1 out pre.length (pre.map (fun x => Value.int .i64 x)) ∧ Below w2.heap.size w2 wr) (fun _ xv _ _ => (u - intOf xv).toNat)
    case atStart => exact ⟨f, [], rfl, by omega, by omega, rfl, World.ownsRow_nil _ _ _ _, Below.refl _ _⟩
    case round =>
      obtain ⟨x, pre, rfl, hx0, hx1, hpre, hown, hB⟩ := hrel
      have hzB := hB.size
      obtain ⟨gf, gfc, rfl⟩ := owns_slice hown
      have lw2 : w.heap.size < w2.heap.size := by omega
      have r0 := (hB.cell (p := ⟨w.heap.size, 0, none⟩) lw2).trans q0
      have r1 := (hB.cell (p := ⟨w.heap.size, 1, none⟩) lw2).trans q1
      have r2 := (hB.cell (p := ⟨w.heap.size, 2, none⟩) lw2).trans q2
      have hb0r : Below w.heap.size w wr := hb02.trans (hB.mono (by omega))
      by_cases hlt : x < u
      · obtain ⟨i, hi⟩ : ∃ i : Nat, bv + x = (i : Int) := ⟨(bv + x).toNat, by omega⟩
        have hilt : (i : Int) < bv + u := by omega
        have SZi := SZ.out i wr (HH.out.below hb0r) (by omega) hilt
        rw [← hi] at SZi hilt
        have hsn := size_nonneg t sp ss (wordAt l (bv + x)) (bv + x)
        have hsm : sizeO t sp ss (wordAt l (bv + x)) (bv + x) ≤ sp := size_small b3
        by_cases hz : sizeO t sp ss (wordAt l (bv + x)) (bv + x) = 0
        · have hw1 := walkL_zero hilt hz
          rw [hw1, Int.add_assoc] at hpre
          rw [hz] at SZi
          have SZi := Lib.hid SZi
          have HP := Lib.hid hpre
          clear hpre hw1 hz hsn hsm hi
          go_wp2_with fail
          refine (SZi.out).mono ?_; rintro e3 w3 ⟨rfl, hb3⟩; have hz3 := hb3.size; (try simp at hz3)
          have hown3 := hown.kept (grown_of_below hb3) (Classical.em _)
          go_wp2
          go_roundw
          case rel => exact ⟨x + 1, pre, by go_num, by omega, by omega, HP.out, hown3, hB.trans (hb3.mono (by omega))⟩
          case measure => simp [intOf]; omega
        · have hw1 := walkL_obj hilt hz
          have hlen : pre.length < 4096 := by
            have h1 : pre.length < (walkL t sp ss l (bv + u) (bv + f)).length := by
              rw [← hpre, hw1, List.length_append, List.length_cons]
              omega
            omega
          have s2 := (size_two hz).1
          have s10 := (size_two hz).2.1
          rw [hw1, Int.add_assoc] at hpre
          generalize sizeO t sp ss (wordAt l (bv + x)) (bv + x) = nn at SZi hz hsn hsm hpre s2 s10
          have hnz : (nn == 0) = false := beq_eq_false_iff_ne.2 hz
          have SZi := Lib.hid SZi
          have HP := Lib.hid hpre
          clear hpre hw1 hz hi
          go_wp2_with fail
          refine (SZi.out).mono ?_; rintro e3 w3 ⟨rfl, hb3⟩; have hz3 := hb3.size; (try simp at hz3)
          have hown3 := hown.kept (grown_of_below hb3) (Classical.em _)
          go_wp2_with (at_builtin; go_loud (refine wpList_append_own _ rfl _ _ 40 rfl w2.heap.size 3 i0 (.int .i64 0) 1 8 Try.underlying40 hi0 hi0z hi0s hi0b rfl (by decide) _ _ _ rfl (hown3.alloc _) ⟨w3.heap.size, 0, none⟩ 1 1 [.int .i64 (bv + x)] rfl rfl (cell_one_new _ _ _) (by simp [Value.oneCell']) (by unfold maxLen; omega) (by omega) (by rw [World.size_alloc]; omega) ?_; intro v' w4 hown' hgrow hnil; obtain ⟨gn, gnc, rfl⟩ := owns_slice hown'))
          have hB4 : Below w2.heap.size w2 w4 := ((hB.trans (hb3.mono (by omega))).alloc (by omega) _).grown hgrow (by rw [World.size_alloc]; omega) (fun j ej => (hown3.lt j ej).1)
          go_roundw
          case rel => exact ⟨x + nn, pre ++ [bv + x], by go_num, by omega, by omega, by rw [List.append_assoc]; exact HP.out, by rw [List.length_append, List.map_append]; exact hown', hB4⟩
          case measure => simp [intOf]; omega
      · have he : walkL t sp ss l (bv + u) (bv + x) = [] := walkL_end (by omega)
        rw [he, List.append_nil] at hpre
        rw [hpre] at hown
        go_wp2
        go_ret2
        exact ⟨gf, ⟨gfc, rfl⟩, owns_ints hown, hb0r⟩
end Go.Proofs.Ytiodkcecpnomcaa
