/- The machine that clears a space, alone: the words that it leaves, plainly. No program in sight. -/
import Derived.Test.YtafenndokmccoaaClrF
import Derived.Test.YtafenndokmccoaaClrS
namespace Go.Proofs.Ytafenndokmccoaa
open Go.RowKit
set_option linter.unusedVariables false
set_option linter.unusedSimpArgs false

/-- so many accesses -/
inductive CRun (P : CPar) : Nat → CSt → Int → List Int → CSt → Int → List Int → Prop
  | zero (s : CSt) (w : Int) (l : List Int) : CRun P 0 s w l s w l
  | succ {n : Nat} {s : CSt} {w : Int} {l : List Int} {s' : CSt} {w' : Int} {l' : List Int} (hi : (cNext P s w).is = true)
      (h : CRun P n (cNext P s w).st (acDo l (cNext P s w).k (cNext P s w).a (cNext P s w).o (cNext P s w).n).1 (acDo l (cNext P s w).k (cNext P s w).a (cNext P s w).o (cNext P s w).n).2 s' w' l') : CRun P (n + 1) s w l s' w' l'
theorem CRun.trans {P : CPar} {n m : Nat} {s s1 s2 : CSt} {w w1 w2 : Int} {l l1 l2 : List Int} (h : CRun P n s w l s1 w1 l1) (k : CRun P m s1 w1 l1 s2 w2 l2) : CRun P (n + m) s w l s2 w2 l2 := by
  induction h with
  | zero => rw [Nat.zero_add]; exact k
  | succ hi _ ih =>
    rw [Nat.add_right_comm]
    exact .succ hi (ih k)
theorem cAlone_run {P : CPar} {n : Nat} {s s' : CSt} {w w' : Int} {l l' : List Int} (h : CRun P n s w l s' w' l') (he : (cNext P s' w').is = false) : ∀ f m, n < f → cAlone P f m s w l = ((cNext P s' w').st.err, m + n, (cNext P s' w').st.pl == 6, l') := by
  induction h with
  | zero =>
    intro f m hf
    obtain ⟨f, rfl⟩ : ∃ f', f = f' + 1 := ⟨f - 1, by omega⟩
    exact cAlone_end he
  | succ hi _ ih =>
    intro f m hf
    obtain ⟨f, rfl⟩ : ∃ f', f = f' + 1 := ⟨f - 1, by omega⟩
    rw [cAlone_go hi, ih he f (m + 1) (by omega)]
    congr 2
    omega

/-- links of objects, made null; words of a space, made noughts -/
def lnk (l : List Int) (zs : List Int) : List Int := zs.foldl (fun a z => a.set (z + 1).toNat 0) l
theorem lnk_snoc (l zs : List Int) (z : Int) : lnk l (zs ++ [z]) = (lnk l zs).set (z + 1).toNat 0 := by simp [lnk]
theorem lnk_len (l : List Int) : ∀ zs, (lnk l zs).length = l.length := by
  intro zs
  induction zs generalizing l with
  | nil => rfl
  | cons z zs ih => unfold lnk; rw [List.foldl_cons]; exact (ih _).trans (by simp)
def zrP (b : Int) (l : List Int) : Nat → List Int
  | 0 => l
  | k + 1 => (zrP b l k).set (b + k).toNat 0
theorem zrP_len (b : Int) (l : List Int) : ∀ k, (zrP b l k).length = l.length
  | 0 => rfl
  | k + 1 => by unfold zrP; rw [List.length_set]; exact zrP_len b l k
theorem getD_set_ne {l : List Int} {i j : Nat} {v : Int} (h : i ≠ j) : (l.set i v).getD j 0 = l.getD j 0 := by
  rw [List.getD_eq_getElem?_getD, List.getD_eq_getElem?_getD, List.getElem?_set_ne h]
theorem lnk_at (j : Nat) : ∀ (zs l : List Int), (∀ z ∈ zs, (z + 1).toNat ≠ j) → (lnk l zs).getD j 0 = l.getD j 0 := by
  intro zs
  induction zs with
  | nil => intro l _; rfl
  | cons z zs ih =>
    intro l h
    unfold lnk
    rw [List.foldl_cons]
    exact (ih _ fun y hy => h y (List.mem_cons_of_mem _ hy)).trans (getD_set_ne (h z (List.mem_cons_self ..)))
theorem zrP_at (b : Int) (l : List Int) (j : Nat) (h : ∀ k : Nat, (b + k).toNat ≠ j) : ∀ k, (zrP b l k).getD j 0 = l.getD j 0
  | 0 => rfl
  | k + 1 => by unfold zrP; rw [getD_set_ne (h k)]; exact zrP_at b l j h k
theorem inV_by {P : CPar} (hP : CPOk P) {s x : Int} (hs : s = 0 ∨ s = 1) (h0 : 0 ≤ x) (h1 : x < P.sp) : inV P.t P.sp (cBase P s + x) = x := by
  unfold inV cBase
  rcases hs with rfl | rfl
  · rw [show 3 + 2 * P.t + 0 * P.sp + x - (3 + 2 * P.t) = x by omega]
    exact Int.emod_eq_of_lt h0 h1
  · rw [show 3 + 2 * P.t + 1 * P.sp + x - (3 + 2 * P.t) = x + P.sp by omega, Int.add_emod_right]
    exact Int.emod_eq_of_lt h0 h1
theorem cObj_size {P : CPar} (hP : CPOk P) {s x v : Int} (hs : s = 0 ∨ s = 1) (h0 : 0 ≤ x) (h1 : x < P.sp) :
    (cObj P x v = true → sizeO P.t P.sp P.ss v (cBase P s + x) = hSizeN v P.ss ∧ sizeO P.t P.sp P.ss v (cBase P s + x) ≠ 0) ∧ (¬ cObj P x v = true → sizeO P.t P.sp P.ss v (cBase P s + x) = 0) := by
  unfold sizeO
  rw [inV_by hP hs h0 h1]
  constructor
  · intro h
    obtain ⟨h2, h3, h4, h5⟩ := cObj_ok h
    rw [if_pos ⟨h2, h5⟩]
    exact ⟨rfl, by omega⟩
  · intro h
    rw [if_neg]
    intro h2
    apply h
    unfold cObj
    rw [decide_eq_true h2.1, decide_eq_true h2.2]
    rfl

theorem walk_phase {P : CPar} (hP : CPOk P) (l0 : List Int) : ∀ (k : Nat) (x : Int) (s s1 : CSt) (w : Int) (l : List Int), (P.sp - x).toNat ≤ k → 0 ≤ x → x ≤ P.sp → cNext P s w = cWalk P s1 x →
    (∀ y, cBase P (1 - P.fr) + x ≤ y → wordAt l y = wordAt l0 y) →
    ∃ n s' w' s2, n ≤ (P.sp - x).toNat ∧ CRun P n s w l s' w' (lnk l (walkL P.t P.sp P.ss l0 (cBase P (1 - P.fr) + P.sp) (cBase P (1 - P.fr) + x))) ∧ cNext P s' w' = cWipe P s2 0 ∧ s2.err = s1.err := by
  intro k
  induction k with
  | zero =>
    intro x s s1 w l hk h0 h1 hs hw
    have hx : P.sp ≤ x := by omega
    refine ⟨0, s, w, s1, by omega, ?_, ?_, rfl⟩
    · rw [walkL_end (by omega)]; exact .zero _ _ _
    · rw [hs]; unfold cWalk; rw [if_pos hx]
  | succ k ih =>
    intro x s s1 w l hk h0 h1 hs hw
    by_cases hx : P.sp ≤ x
    · refine ⟨0, s, w, s1, by omega, ?_, ?_, rfl⟩
      · rw [walkL_end (by omega)]; exact .zero _ _ _
      · rw [hs]; unfold cWalk; rw [if_pos hx]
    · have hby := cBase_range hP (s := 1 - P.fr) (by have := hP.f; omega)
      have hf1 : 1 - P.fr = 0 ∨ 1 - P.fr = 1 := by have := hP.f; omega
      have hs' : cNext P s w = ⟨⟨1, x, s1.was, s1.err⟩, 1, cBase P (1 - P.fr) + x, 0, 0, true⟩ := by rw [hs]; unfold cWalk; rw [if_neg hx]
      have hv : (acDo l 1 (cBase P (1 - P.fr) + x) 0 0) = (wordAt l0 (cBase P (1 - P.fr) + x), l) := by
        rw [← hw _ (Int.le_refl _)]
        rfl
      have step1 : ∀ {n s' w' l'}, CRun P n ⟨1, x, s1.was, s1.err⟩ (wordAt l0 (cBase P (1 - P.fr) + x)) l s' w' l' → CRun P (n + 1) s w l s' w' l' := by
        intro n s' w' l' hr
        refine .succ (by rw [hs']) ?_
        rw [hs']
        dsimp only
        rw [hv]
        exact hr
      generalize hvv : wordAt l0 (cBase P (1 - P.fr) + x) = v at step1
      obtain ⟨c1, c2⟩ := cObj_size hP (v := v) hf1 h0 (show x < P.sp by omega)
      have hn1 : cNext P ⟨1, x, s1.was, s1.err⟩ v = if cObj P x v = true then ⟨⟨2, x + hSizeN v P.ss, s1.was, s1.err⟩, 2, cBase P (1 - P.fr) + x + 1, 0, 0, true⟩ else cWalk P ⟨1, x, s1.was, s1.err⟩ (x + 1) := rfl
      by_cases hc : cObj P x v = true
      · obtain ⟨z1, z2⟩ := c1 hc
        obtain ⟨_, n2, n10, nsp⟩ := cObj_ok hc
        rw [if_pos hc] at hn1
        have hwk : walkL P.t P.sp P.ss l0 (cBase P (1 - P.fr) + P.sp) (cBase P (1 - P.fr) + x) = (cBase P (1 - P.fr) + x) :: walkL P.t P.sp P.ss l0 (cBase P (1 - P.fr) + P.sp) (cBase P (1 - P.fr) + (x + hSizeN v P.ss)) := by
          rw [walkL_obj (by omega) (by rw [hvv]; exact z2), hvv, z1, Int.add_assoc]
        rw [hwk]
        obtain ⟨n, s', w', s2, hn, hr, he, her⟩ := ih (x + hSizeN v P.ss) ⟨2, x + hSizeN v P.ss, s1.was, s1.err⟩ ⟨2, x + hSizeN v P.ss, s1.was, s1.err⟩ 0 (l.set (cBase P (1 - P.fr) + x + 1).toNat 0) (by omega) (by omega) (by omega) rfl (by
          intro y hy
          rw [← hw y (by omega)]
          unfold wordAt
          exact getD_set_ne (by omega))
        refine ⟨n + 1 + 1, s', w', s2, by omega, step1 (.succ (by rw [hn1]) ?_), he, her⟩
        rw [hn1]
        exact hr
      · rw [if_neg hc] at hn1
        rw [walkL_zero (by omega) (by rw [hvv]; exact c2 hc), Int.add_assoc]
        obtain ⟨n, s', w', s2, hn, hr, he, her⟩ := ih (x + 1) ⟨1, x, s1.was, s1.err⟩ ⟨1, x, s1.was, s1.err⟩ v l (by omega) (by omega) (by omega) hn1 (fun y hy => hw y (by omega))
        exact ⟨n + 1, s', w', s2, by omega, step1 hr, he, her⟩

theorem wipe_phase {P : CPar} (hP : CPOk P) (l : List Int) : ∀ (k j : Nat) (s s1 : CSt) (w : Int), P.sp.toNat = j + k → cNext P s w = cWipe P s1 j →
    ∃ s' w' s2, CRun P k s w (zrP (cBase P P.fr) l j) s' w' (zrP (cBase P P.fr) l P.sp.toNat) ∧ cNext P s' w' = cWipe P s2 P.sp ∧ s2.err = s1.err := by
  intro k
  induction k with
  | zero =>
    intro j s s1 w hj hs
    obtain rfl : j = P.sp.toNat := by omega
    refine ⟨s, w, s1, .zero _ _ _, ?_, rfl⟩
    rw [hs, Int.toNat_of_nonneg (by have := hP.s32; omega)]
  | succ k ih =>
    intro j s s1 w hj hs
    have h32 := hP.s32
    have hs' : cNext P s w = ⟨⟨3, (j : Int) + 1, s1.was, s1.err⟩, 2, cBase P P.fr + j, 0, 0, true⟩ := by rw [hs]; unfold cWipe; rw [if_neg (by omega)]
    obtain ⟨s', w', s2, hr, he, her⟩ := ih (j + 1) ⟨3, (j : Int) + 1, s1.was, s1.err⟩ ⟨3, (j : Int) + 1, s1.was, s1.err⟩ 0 (by omega) rfl
    refine ⟨s', w', s2, .succ (by rw [hs']) ?_, he, her⟩
    rw [hs']
    exact hr

/-- the words that a machine that is alone leaves -/
def wantW (P : CPar) (l : List Int) : List Int := zrP (cBase P P.fr) (lnk l (walkL P.t P.sp P.ss l (cBase P (1 - P.fr) + P.sp) (cBase P (1 - P.fr) + P.hi))) P.sp.toNat
theorem walkL_ge {t sp : Int} {ss : List ByteArray} {l : List Int} {U : Int} : ∀ (k : Nat) (y : Int), (U - y).toNat ≤ k → ∀ z ∈ walkL t sp ss l U y, y ≤ z ∧ z < U := by
  intro k
  induction k with
  | zero =>
    intro y hk z hz
    rw [walkL_end (by omega)] at hz
    cases hz
  | succ k ih =>
    intro y hk z hz
    by_cases hy : y < U
    · by_cases h0 : sizeO t sp ss (wordAt l y) y = 0
      · rw [walkL_zero hy h0] at hz
        have := ih (y + 1) (by omega) z hz
        omega
      · rw [walkL_obj hy h0] at hz
        have hs := size_nonneg t sp ss (wordAt l y) y
        rcases List.mem_cons.1 hz with hz | hz
        · omega
        · have := ih _ (by omega) z hz
          omega
    · rw [walkL_end (by omega)] at hz
      cases hz
theorem alone_whole {P : CPar} (hP : CPOk P) (h100 : P.sp ≤ 100) (l : List Int) (hlen : 3 + 2 * P.t + 2 * P.sp = l.length) {fl fh fo : Int} (hF : frB P.fr fl fh fo = true) (hh : fh ≤ P.sp) (h1 : l.getD 1 0 = frV P.fr fl fh fo) :
    ∃ n : Nat, (n : Int) ≤ 3 * P.sp + 2 ∧ cAlone P 2000 0 ⟨0, P.hi, 0, 0⟩ 0 l = (if fo ≤ P.hi then (0, n, true, (wantW P l).set 1 (frV (1 - P.fr) fo P.hi 0)) else (240, n, true, wantW P l)) := by
  have h32 := hP.s32
  have hby := cBase_range hP (s := 1 - P.fr) (by have := hP.f; omega)
  have hbo := cBase_range hP hP.f
  obtain ⟨n1, s', w', s2, hn1, hr1, he1, her1⟩ := walk_phase hP l _ P.hi ⟨0, P.hi, 0, 0⟩ ⟨0, P.hi, 0, 0⟩ 0 l (Nat.le_refl _) hP.h0 hP.h1 rfl (fun _ _ => rfl)
  obtain ⟨s3, w3, s4, hr2, he2, her2⟩ := wipe_phase hP (lnk l (walkL P.t P.sp P.ss l (cBase P (1 - P.fr) + P.sp) (cBase P (1 - P.fr) + P.hi))) P.sp.toNat 0 s' s2 w' (by omega) (by rw [he1]; rfl)
  have hr12 := hr1.trans hr2
  have hw1 : (wantW P l).getD 1 0 = frV P.fr fl fh fo := by
    unfold wantW
    rw [zrP_at _ _ _ (fun k => by omega), lnk_at _ _ _ (fun z hz => by have := walkL_ge _ _ (Nat.le_refl _) z hz; have := hP.h0; omega), h1]
  have hwl : (wantW P l).length = l.length := by unfold wantW; rw [zrP_len, lnk_len]
  have hs4 : cNext P s3 w3 = ⟨⟨4, P.sp, s4.was, s4.err⟩, 1, 1, 0, 0, true⟩ := by rw [he2]; unfold cWipe; rw [if_pos (Int.le_refl _)]
  have her4 : s4.err = 0 := her2.trans her1
  change CRun P _ _ _ _ s3 w3 (wantW P l) at hr12
  have hd : acDo (wantW P l) 1 1 0 0 = (frV P.fr fl fh fo, wantW P l) := by rw [← hw1]; rfl
  have hr3 : CRun P (n1 + P.sp.toNat + 1) ⟨0, P.hi, 0, 0⟩ 0 l ⟨4, P.sp, s4.was, s4.err⟩ (frV P.fr fl fh fo) (wantW P l) := by
    refine hr12.trans (.succ (by rw [hs4]) ?_)
    rw [hs4]
    dsimp only
    rw [hd]
    exact .zero _ _ _
  obtain ⟨v1, v2, v3, v4, v5⟩ := frV_fw hF
  have ht : turnB P (frV P.fr fl fh fo) = decide (fo ≤ P.hi) := by
    unfold turnB
    rw [v1, v2, v4, v5, decide_eq_true (rfl : P.fr = P.fr), decide_eq_true hh]
    rfl
  have hn4 : cNext P ⟨4, P.sp, s4.was, s4.err⟩ (frV P.fr fl fh fo) = if turnB P (frV P.fr fl fh fo) = true then ⟨⟨5, P.sp, frV P.fr fl fh fo, s4.err⟩, 3, 1, frV P.fr fl fh fo, frV (1 - P.fr) (fwO (frV P.fr fl fh fo)) P.hi 0, true⟩ else cEnd ⟨4, P.sp, s4.was, s4.err⟩ 240 := rfl
  rw [ht, v5] at hn4
  by_cases ho : fo ≤ P.hi
  · rw [decide_eq_true ho, if_pos rfl] at hn4
    have hd5 : acDo (wantW P l) 3 1 (frV P.fr fl fh fo) (frV (1 - P.fr) fo P.hi 0) = (frV P.fr fl fh fo, (wantW P l).set 1 (frV (1 - P.fr) fo P.hi 0)) := by
      unfold acDo
      rw [if_neg (by decide), if_neg (by decide)]
      rw [show (1 : Int).toNat = 1 from rfl, hw1, if_pos rfl]
    have hr5 : CRun P (n1 + P.sp.toNat + 1 + 1) ⟨0, P.hi, 0, 0⟩ 0 l ⟨5, P.sp, frV P.fr fl fh fo, s4.err⟩ (frV P.fr fl fh fo) ((wantW P l).set 1 (frV (1 - P.fr) fo P.hi 0)) := by
      refine hr3.trans (.succ (by rw [hn4]) ?_)
      rw [hn4]
      dsimp only
      rw [hd5]
      exact .zero _ _ _
    have hn5 : cNext P ⟨5, P.sp, frV P.fr fl fh fo, s4.err⟩ (frV P.fr fl fh fo) = cEnd ⟨5, P.sp, frV P.fr fl fh fo, s4.err⟩ 0 := by
      show (if frV P.fr fl fh fo = frV P.fr fl fh fo then _ else _ : CRes) = _
      rw [if_pos rfl]
    refine ⟨n1 + P.sp.toNat + 1 + 1, by have := hP.h0; omega, ?_⟩
    rw [if_pos ho, cAlone_run hr5 (by rw [hn5]; rfl) 2000 0 (by have := hP.h0; omega), hn5, Nat.zero_add]
    rfl
  · rw [decide_eq_false ho, if_neg (by decide)] at hn4
    refine ⟨n1 + P.sp.toNat + 1, by have := hP.h0; omega, ?_⟩
    rw [if_neg ho, cAlone_run hr3 (by rw [hn4]; rfl) 2000 0 (by have := hP.h0; omega), hn4, Nat.zero_add]
    rfl
end Go.Proofs.Ytafenndokmccoaa
