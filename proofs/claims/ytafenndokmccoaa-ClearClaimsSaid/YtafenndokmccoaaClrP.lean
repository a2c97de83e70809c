/- The machine that clears a space, plainly: its states, its steps, and what comes of it when it is alone, or among claims. No program in sight. -/
import Derived.Test.YtafenndokmccoaaPackB
import Derived.Test.YtafenndokmccoaaHeadSize
import Derived.Test.YtafenndokmccoaaArCas
namespace Go.Proofs.Ytafenndokmccoaa
open Go.RowKit
set_option linter.unusedVariables false
set_option linter.unusedSimpArgs false

/-- where the machine stands: its place (0: at the beginning, 1: it loads a word, 2: it stores a link, 3: it clears, 4: it loads the frontier, 5: it swaps it, 6: it has ended), the next word, the frontier that it saw, what came of it -/
structure CSt where
  (pl : Nat)
  (at_ was err : Int)
deriving DecidableEq
/-- what it is made of: the plan, the space it clears, High -/
structure CPar where
  (t sp : Int)
  (ss : List ByteArray)
  (fr hi : Int)
/-- a step: the state behind it, the access, whether there is one -/
structure CRes where
  st : CSt
  (k a o n : Int)
  is : Bool
deriving DecidableEq
def cBase (P : CPar) (s : Int) : Int := 3 + 2 * P.t + s * P.sp
def cEnd (s : CSt) (e : Int) : CRes := ⟨⟨6, s.at_, s.was, e⟩, 0, 0, 0, 0, false⟩
def cWipe (P : CPar) (s : CSt) (x : Int) : CRes :=
  if P.sp ≤ x then ⟨⟨4, x, s.was, s.err⟩, 1, 1, 0, 0, true⟩ else ⟨⟨3, x + 1, s.was, s.err⟩, 2, cBase P P.fr + x, 0, 0, true⟩
def cWalk (P : CPar) (s : CSt) (x : Int) : CRes :=
  if P.sp ≤ x then cWipe P s 0 else ⟨⟨1, x, s.was, s.err⟩, 1, cBase P (1 - P.fr) + x, 0, 0, true⟩
def turnB (P : CPar) (w : Int) : Bool := fwB w && decide (fwS w = P.fr) && decide (fwH w ≤ P.sp) && decide (fwO w ≤ P.hi)
def cTurn (P : CPar) (s : CSt) (w : Int) : CRes :=
  if turnB P w = true then ⟨⟨5, s.at_, w, s.err⟩, 3, 1, w, frV (1 - P.fr) (fwO w) P.hi 0, true⟩ else cEnd s 240
def cObj (P : CPar) (x w : Int) : Bool := decide (hSizeE w P.ss = 0) && decide (hSizeN w P.ss ≤ P.sp - x)
def cNext (P : CPar) (s : CSt) (ans : Int) : CRes :=
  match s.pl with
  | 0 => cWalk P s s.at_
  | 1 => if cObj P s.at_ ans = true then ⟨⟨2, s.at_ + hSizeN ans P.ss, s.was, s.err⟩, 2, cBase P (1 - P.fr) + s.at_ + 1, 0, 0, true⟩ else cWalk P s (s.at_ + 1)
  | 2 => cWalk P s s.at_
  | 3 => cWipe P s s.at_
  | 4 => cTurn P s ans
  | 5 => if ans = s.was then cEnd s 0 else cTurn P s ans
  | _ => ⟨s, 0, 0, 0, 0, false⟩
/-- what holds of each state that comes up -/
structure CInv (P : CPar) (s : CSt) : Prop where
  le : s.pl ≤ 6
  w0 : s.pl = 0 ∨ s.pl = 2 → 0 ≤ s.at_ ∧ s.at_ ≤ P.sp
  w1 : s.pl = 1 → 0 ≤ s.at_ ∧ s.at_ < P.sp
  w3 : s.pl = 3 → 1 ≤ s.at_ ∧ s.at_ ≤ P.sp
  er : s.pl ≠ 6 → s.err = 0
  wa : 0 ≤ s.was ∧ s.was < 18446744073709551616
/-- the plan and the bounds of the machine -/
structure CPOk (P : CPar) : Prop where
  t1 : 1 ≤ P.t
  t8 : P.t ≤ 8
  s32 : 32 ≤ P.sp
  s4 : P.sp ≤ 4096
  f : P.fr = 0 ∨ P.fr = 1
  h0 : 0 ≤ P.hi
  h1 : P.hi ≤ P.sp
theorem cBase_range {P : CPar} (h : CPOk P) {s : Int} (hs : s = 0 ∨ s = 1) : 5 ≤ cBase P s ∧ cBase P s + P.sp ≤ 3 + 2 * P.t + 2 * P.sp ∧ cBase P s ≤ 5000 := by
  have := h.t1; have := h.t8; have := h.s32; have := h.s4
  unfold cBase
  rcases hs with rfl | rfl <;> omega
theorem hSize_pos {w : Int} {ss : List ByteArray} (h : hSizeE w ss = 0) : 2 ≤ hSizeN w ss ∧ hSizeN w ss ≤ 10 := by
  unfold hSizeE at h
  unfold hSizeN
  split at h
  · rename_i hk
    rw [if_pos hk]
    unfold sizeN
    rw [if_pos h]
    obtain ⟨ht, h0, h1⟩ := ofE_zero h
    have hm : (ss.getD (hShape w).toNat ByteArray.empty).size ≤ 8 := by
      rw [List.getD_eq_getElem?_getD, List.getElem?_eq_getElem (by omega), Option.getD_some]
      exact shape_size (table_at ht _ (by omega))
    omega
  · cases h
theorem cObj_ok {P : CPar} {x w : Int} (h : cObj P x w = true) : hSizeE w P.ss = 0 ∧ 2 ≤ hSizeN w P.ss ∧ hSizeN w P.ss ≤ 10 ∧ hSizeN w P.ss ≤ P.sp - x := by
  unfold cObj at h
  rw [Bool.and_eq_true, decide_eq_true_eq, decide_eq_true_eq] at h
  exact ⟨h.1, (hSize_pos h.1).1, (hSize_pos h.1).2, h.2⟩
theorem turnB_ok {P : CPar} {w : Int} (h : turnB P w = true) : fwB w = true ∧ fwS w = P.fr ∧ fwH w ≤ P.sp ∧ fwO w ≤ P.hi := by
  unfold turnB at h
  simp only [Bool.and_eq_true, decide_eq_true_eq] at h
  exact ⟨h.1.1.1, h.1.1.2, h.1.2, h.2⟩

theorem cWipe_inv {P : CPar} {s : CSt} {x : Int} (hs : CInv P s) (he : s.err = 0) (h0 : 0 ≤ x) : CInv P (cWipe P s x).st := by
  unfold cWipe
  by_cases h : P.sp ≤ x
  · rw [if_pos h]
    exact ⟨by simp, by simp, by simp, by simp, fun _ => he, hs.wa⟩
  · rw [if_neg h]
    exact ⟨by simp, by simp, by simp, fun _ => by dsimp only; omega, fun _ => he, hs.wa⟩
theorem cWalk_inv {P : CPar} {s : CSt} {x : Int} (hs : CInv P s) (he : s.err = 0) (h0 : 0 ≤ x) : CInv P (cWalk P s x).st := by
  unfold cWalk
  by_cases h : P.sp ≤ x
  · rw [if_pos h]
    exact cWipe_inv hs he (by omega)
  · rw [if_neg h]
    exact ⟨by simp, by simp, fun _ => by dsimp only; omega, by simp, fun _ => he, hs.wa⟩
theorem cEnd_inv {P : CPar} {s : CSt} (hs : CInv P s) (e : Int) : CInv P (cEnd s e).st :=
  ⟨by simp [cEnd], by simp [cEnd], by simp [cEnd], by simp [cEnd], fun h => absurd rfl h, hs.wa⟩
theorem cTurn_inv {P : CPar} {s : CSt} {w : Int} (hs : CInv P s) (he : s.err = 0) (h0 : 0 ≤ w ∧ w < 18446744073709551616) : CInv P (cTurn P s w).st := by
  unfold cTurn
  by_cases h : turnB P w = true
  · rw [if_pos h]
    exact ⟨by simp, by simp, by simp, by simp, fun _ => he, h0⟩
  · rw [if_neg h]
    exact cEnd_inv hs _
theorem cNext_inv {P : CPar} {s : CSt} {ans : Int} (hs : CInv P s) (h0 : 0 ≤ ans ∧ ans < 18446744073709551616) : CInv P (cNext P s ans).st := by
  have hle := hs.le
  obtain ⟨pl, at_, was, err⟩ := s
  have : pl = 0 ∨ pl = 1 ∨ pl = 2 ∨ pl = 3 ∨ pl = 4 ∨ pl = 5 ∨ pl = 6 := by simp at hle; omega
  rcases this with rfl | rfl | rfl | rfl | rfl | rfl | rfl
  · exact cWalk_inv hs (hs.er (by simp)) (hs.w0 (.inl rfl)).1
  · show CInv P (if cObj P at_ ans = true then _ else _ : CRes).st
    have h1 := hs.w1 rfl
    dsimp only at h1
    by_cases h : cObj P at_ ans = true
    · rw [if_pos h]
      obtain ⟨_, h2, h3, h4⟩ := cObj_ok h
      exact ⟨by simp, fun _ => by dsimp only; omega, by simp, by simp, fun _ => hs.er (by simp), hs.wa⟩
    · rw [if_neg h]
      exact cWalk_inv hs (hs.er (by simp)) (by dsimp only; omega)
  · exact cWalk_inv hs (hs.er (by simp)) (hs.w0 (.inr rfl)).1
  · exact cWipe_inv hs (hs.er (by simp)) (by have := hs.w3 rfl; dsimp only at this ⊢; omega)
  · exact cTurn_inv hs (hs.er (by simp)) h0
  · show CInv P (if ans = was then _ else _ : CRes).st
    by_cases h : ans = was
    · rw [if_pos h]
      exact cEnd_inv hs _
    · rw [if_neg h]
      exact cTurn_inv hs (hs.er (by simp)) h0
  · exact hs
theorem cInv_start {P : CPar} (h : CPOk P) : CInv P ⟨0, P.hi, 0, 0⟩ :=
  ⟨by simp, fun _ => ⟨h.h0, h.h1⟩, by simp, by simp, fun _ => rfl, by simp⟩

/-- an access that is told may be done: it is one of these -/
structure CAcc (P : CPar) (r : CRes) : Prop where
  at0 : 1 ≤ r.a
  at1 : r.a < 3 + 2 * P.t + 2 * P.sp
  kind : (r.k = 1 ∧ r.o = 0 ∧ r.n = 0) ∨ (r.k = 2 ∧ r.o = 0 ∧ r.n = 0) ∨ (r.k = 3 ∧ 0 ≤ r.o ∧ r.o < 18446744073709551616 ∧ 0 ≤ r.n ∧ r.n < 18446744073709551616)
theorem cWipe_acc {P : CPar} (hP : CPOk P) (s : CSt) {x : Int} (h0 : 0 ≤ x) : CAcc P (cWipe P s x) ∧ (cWipe P s x).is = true := by
  have hb := cBase_range hP hP.f
  have := hP.t1; have := hP.s32
  unfold cWipe
  by_cases h : P.sp ≤ x
  · rw [if_pos h]
    exact ⟨⟨by dsimp only; omega, by dsimp only; omega, .inl ⟨rfl, rfl, rfl⟩⟩, rfl⟩
  · rw [if_neg h]
    exact ⟨⟨by dsimp only; omega, by dsimp only; omega, .inr (.inl ⟨rfl, rfl, rfl⟩)⟩, rfl⟩
theorem cWalk_acc {P : CPar} (hP : CPOk P) (s : CSt) {x : Int} (h0 : 0 ≤ x) : CAcc P (cWalk P s x) ∧ (cWalk P s x).is = true := by
  have hb := cBase_range hP (s := 1 - P.fr) (by have := hP.f; omega)
  unfold cWalk
  by_cases h : P.sp ≤ x
  · rw [if_pos h]
    exact cWipe_acc hP s (by omega)
  · rw [if_neg h]
    exact ⟨⟨by dsimp only; omega, by dsimp only; omega, .inl ⟨rfl, rfl, rfl⟩⟩, rfl⟩
theorem turn_right {P : CPar} (hP : CPOk P) {w : Int} (h : turnB P w = true) : frB (1 - P.fr) (fwO w) P.hi 0 = true := by
  obtain ⟨h1, h2, h3, h4⟩ := turnB_ok h
  obtain ⟨_, _, _, h5, _⟩ := frB_ok (fw_right w)
  have := hP.f; have := hP.h0; have := hP.h1; have := hP.s4
  exact frB_mk (by omega) (by omega) (by omega) (by omega) (by omega)
theorem cTurn_acc {P : CPar} (hP : CPOk P) (s : CSt) {w : Int} (h0 : 0 ≤ w ∧ w < 18446744073709551616) (hi : (cTurn P s w).is = true) : CAcc P (cTurn P s w) := by
  have := hP.t1; have := hP.s32
  unfold cTurn at hi ⊢
  by_cases h : turnB P w = true
  · rw [if_pos h]
    have hr := frV_range (turn_right hP h)
    exact ⟨by dsimp only; omega, by dsimp only; omega, .inr (.inr ⟨rfl, h0.1, h0.2, hr.1, hr.2⟩)⟩
  · rw [if_neg h] at hi
    cases hi
theorem cNext_acc {P : CPar} (hP : CPOk P) {s : CSt} {ans : Int} (hs : CInv P s) (h0 : 0 ≤ ans ∧ ans < 18446744073709551616) (hi : (cNext P s ans).is = true) : CAcc P (cNext P s ans) := by
  have hle := hs.le
  obtain ⟨pl, at_, was, err⟩ := s
  have : pl = 0 ∨ pl = 1 ∨ pl = 2 ∨ pl = 3 ∨ pl = 4 ∨ pl = 5 ∨ pl = 6 := by simp at hle; omega
  rcases this with rfl | rfl | rfl | rfl | rfl | rfl | rfl
  · exact (cWalk_acc hP _ (hs.w0 (.inl rfl)).1).1
  · have h1 := hs.w1 rfl
    dsimp only at h1
    show CAcc P (if cObj P at_ ans = true then _ else _ : CRes)
    by_cases h : cObj P at_ ans = true
    · rw [if_pos h]
      obtain ⟨_, h2, h3, h4⟩ := cObj_ok h
      have hb := cBase_range hP (s := 1 - P.fr) (by have := hP.f; omega)
      exact ⟨by dsimp only; omega, by dsimp only; omega, .inr (.inl ⟨rfl, rfl, rfl⟩)⟩
    · rw [if_neg h]
      exact (cWalk_acc hP _ (by dsimp only; omega)).1
  · exact (cWalk_acc hP _ (hs.w0 (.inr rfl)).1).1
  · exact (cWipe_acc hP _ (by have := hs.w3 rfl; dsimp only at this ⊢; omega)).1
  · exact cTurn_acc hP _ h0 hi
  · have hi' : (if ans = was then cEnd ⟨5, at_, was, err⟩ 0 else cTurn P ⟨5, at_, was, err⟩ ans : CRes).is = true := hi
    show CAcc P (if ans = was then _ else _ : CRes)
    by_cases h : ans = was
    · rw [if_pos h] at hi'
      cases hi'
    · rw [if_neg h] at hi' ⊢
      exact cTurn_acc hP _ h0 hi'
  · cases hi

/-- what comes of a machine that is alone: the error, how many accesses, whether it has ended; the words behind -/
def cAlone (P : CPar) : Nat → Nat → CSt → Int → List Int → Int × Nat × Bool × List Int
  | 0, n, _, _, l => (0, n, false, l)
  | f + 1, n, s, w, l =>
    if (cNext P s w).is = true then cAlone P f (n + 1) (cNext P s w).st (acDo l (cNext P s w).k (cNext P s w).a (cNext P s w).o (cNext P s w).n).1 (acDo l (cNext P s w).k (cNext P s w).a (cNext P s w).o (cNext P s w).n).2
    else ((cNext P s w).st.err, n, (cNext P s w).st.pl == 6, l)
theorem cDo_len (l : List Int) (k a o n : Int) : (acDo l k a o n).2.length = l.length := by
  unfold acDo
  split
  · rfl
  · split
    · simp
    · split <;> simp
theorem cDo_rng {P : CPar} {r : CRes} (h : CAcc P r) {l : List Int} (hl : ∀ x ∈ l, 0 ≤ x ∧ x < 18446744073709551616) :
    (∀ x ∈ (acDo l r.k r.a r.o r.n).2, 0 ≤ x ∧ x < 18446744073709551616) ∧ 0 ≤ (acDo l r.k r.a r.o r.n).1 ∧ (acDo l r.k r.a r.o r.n).1 < 18446744073709551616 := by
  have hg : 0 ≤ l.getD r.a.toNat 0 ∧ l.getD r.a.toNat 0 < 18446744073709551616 := by
    rw [List.getD_eq_getElem?_getD]
    by_cases h' : r.a.toNat < l.length
    · rw [List.getElem?_eq_getElem h']
      exact hl _ (List.getElem_mem h')
    · rw [List.getElem?_eq_none (by omega)]
      simp
  have hset : ∀ n, (0 ≤ n ∧ n < 18446744073709551616) → ∀ x ∈ l.set r.a.toNat n, 0 ≤ x ∧ x < 18446744073709551616 := by
    intro n hn x hx
    rcases List.mem_or_eq_of_mem_set hx with h1 | h1
    · exact hl x h1
    · rw [h1]; exact hn
  unfold acDo
  rcases h.kind with ⟨hk, _, hn⟩ | ⟨hk, _, hn⟩ | ⟨hk, _, _, hn⟩
  · rw [if_pos hk]
    exact ⟨hl, hg⟩
  · rw [if_neg (by omega), if_pos hk]
    exact ⟨hset _ (by omega), by simp, by simp⟩
  · rw [if_neg (by omega), if_neg (by omega)]
    refine ⟨?_, hg⟩
    dsimp only
    split
    · exact hset _ hn
    · exact hl
end Go.Proofs.Ytafenndokmccoaa
