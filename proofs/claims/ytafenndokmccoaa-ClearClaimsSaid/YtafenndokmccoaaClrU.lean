/- The machine that clears a space, among claims: what it leaves, plainly. No program in sight. -/
import Derived.Test.YtafenndokmccoaaClrL
namespace Go.Proofs.Ytafenndokmccoaa
open Go.RowKit
set_option linter.unusedVariables false
set_option linter.unusedSimpArgs false

/-- what a claim makes of what is claimed in the space of the younger copies -/
def clm (hi L H n o : Int) (c : Int × Int) : Int := if c.1 = n ∧ c.2 ≤ hi - o ∧ 1 ≤ c.2 ∧ L + o + c.2 ≤ H then o + c.2 else o
def clms (hi L H n o : Int) (cs : List (Int × Int)) : Int := cs.foldl (clm hi L H n) o
theorem clms_snoc (hi L H n o : Int) (cs : List (Int × Int)) (c : Int × Int) : clms hi L H n o (cs ++ [c]) = clm hi L H n (clms hi L H n o cs) c := by simp [clms]
theorem clm_le {fr hi L H n o : Int} {c : Int × Int} (h : frB fr L H o = true) : o ≤ clm hi L H n o c ∧ frB fr L H (clm hi L H n o c) = true ∧ (o ≤ hi → clm hi L H n o c ≤ hi) ∧ (hi < o → clm hi L H n o c = o) := by
  obtain ⟨a, b, d, e, f⟩ := frB_ok h
  unfold clm
  split
  · rename_i hc
    exact ⟨by omega, frB_mk a b d (by omega) (by omega), fun _ => by omega, fun _ => by omega⟩
  · exact ⟨Int.le_refl _, h, id, fun _ => rfl⟩
theorem clms_le {fr hi L H n : Int} : ∀ (cs : List (Int × Int)) (o : Int), frB fr L H o = true → o ≤ clms hi L H n o cs ∧ frB fr L H (clms hi L H n o cs) = true ∧ (o ≤ hi → clms hi L H n o cs ≤ hi) ∧ (hi < o → clms hi L H n o cs = o) := by
  intro cs
  induction cs with
  | nil => intro o h; exact ⟨Int.le_refl _, h, id, fun _ => rfl⟩
  | cons c cs ih =>
    intro o h
    obtain ⟨h1, h2, h3, h4⟩ := clm_le (c := c) (hi := hi) (n := n) h
    obtain ⟨k1, k2, k3, k4⟩ := ih _ h2
    have e : clms hi L H n o (c :: cs) = clms hi L H n (clm hi L H n o c) cs := rfl
    rw [e]
    exact ⟨by omega, k2, fun h => k3 (h3 h), fun h => by rw [k4 (by rw [h4 h]; exact h), h4 h]⟩

/-- how many accesses are left at most -/
def cMu (P : CPar) (s : CSt) : Nat :=
  match s.pl with
  | 0 => (P.sp - s.at_ + P.sp + 3 + P.hi).toNat
  | 1 => (P.sp - s.at_ - 1 + P.sp + 3 + P.hi).toNat
  | 2 => (P.sp - s.at_ + P.sp + 3 + P.hi).toNat
  | 3 => (P.sp - s.at_ + 3 + P.hi).toNat
  | 4 => (P.hi + 2).toNat
  | 5 => (P.hi + 1 - fwO s.was).toNat
  | _ => 0
/-- what holds ahead of a round -/
structure CI (P : CPar) (L H O0 : Int) (s : CSt) (w : Int) (l : List Int) (o : Int) : Prop where
  inv : CInv P s
  len : 3 + 2 * P.t + 2 * P.sp = l.length
  pl : s.pl ≤ 5
  fr : frB P.fr L H o = true
  ge : O0 ≤ o
  hi0 : O0 ≤ P.hi → o ≤ P.hi
  hi1 : P.hi < O0 → o = O0
  ph : (s.pl = 5 ∧ w = s.was ∧ l.getD 1 0 = frV (1 - P.fr) o P.hi 0 ∧ o ≤ P.hi ∧ O0 ≤ P.hi) ∨
    (l.getD 1 0 = frV P.fr L H o ∧ (s.pl = 4 → w = frV P.fr L H o) ∧ (s.pl = 5 → w = frV P.fr L H o ∧ w ≠ s.was ∧ ∃ o1, s.was = frV P.fr L H o1 ∧ frB P.fr L H o1 = true ∧ o1 ≤ o ∧ o1 ≤ P.hi ∧ O0 ≤ P.hi))
theorem frV_inj {s l h o o' : Int} (e : frV s l h o = frV s l h o') : o = o' := by unfold frV at e; omega

theorem cWalk_mu {P : CPar} (hP : CPOk P) (s : CSt) {x : Int} (h0 : 0 ≤ x) (h1 : x ≤ P.sp) : (cWalk P s x).is = true ∧ cMu P (cWalk P s x).st + 1 ≤ (P.sp - x + P.sp + 3 + P.hi).toNat ∧ (cWalk P s x).st.pl ≤ 4 ∧ ((cWalk P s x).st.pl = 4 → (cWalk P s x).k = 1 ∧ (cWalk P s x).a = 1) ∧ ((cWalk P s x).k = 1 ∨ ((cWalk P s x).k = 2 ∧ 5 ≤ (cWalk P s x).a)) := by
  have h32 := hP.s32; have hh := hP.h0
  have hbo := cBase_range hP hP.f
  unfold cWalk
  by_cases h : P.sp ≤ x
  · rw [if_pos h]
    unfold cWipe
    rw [if_neg (by omega)]
    refine ⟨rfl, ?_, by simp, (fun e => by cases e), .inr ⟨rfl, by dsimp only; omega⟩⟩
    show (P.sp - (0 + 1) + 3 + P.hi).toNat + 1 ≤ _
    omega
  · rw [if_neg h]
    refine ⟨rfl, ?_, by dsimp only; omega, (fun e => by cases e), .inl rfl⟩
    show (P.sp - x - 1 + P.sp + 3 + P.hi).toNat + 1 ≤ _
    omega
theorem cWipe_mu {P : CPar} (hP : CPOk P) (s : CSt) {x : Int} (h0 : 0 ≤ x) (h1 : x ≤ P.sp) : (cWipe P s x).is = true ∧ cMu P (cWipe P s x).st + 1 ≤ (P.sp - x + 3 + P.hi).toNat ∧ (cWipe P s x).st.pl ≤ 4 ∧ ((cWipe P s x).st.pl = 4 → (cWipe P s x).k = 1 ∧ (cWipe P s x).a = 1) ∧ ((cWipe P s x).k = 1 ∨ ((cWipe P s x).k = 2 ∧ 5 ≤ (cWipe P s x).a)) := by
  have h32 := hP.s32; have hh := hP.h0
  have hbo := cBase_range hP hP.f
  unfold cWipe
  by_cases h : P.sp ≤ x
  · rw [if_pos h]
    refine ⟨rfl, ?_, by simp, fun _ => ⟨rfl, rfl⟩, .inl rfl⟩
    show (P.hi + 2).toNat + 1 ≤ _
    omega
  · rw [if_neg h]
    refine ⟨rfl, ?_, by dsimp only; omega, (fun e => by cases e), .inr ⟨rfl, by dsimp only; omega⟩⟩
    show (P.sp - (x + 1) + 3 + P.hi).toNat + 1 ≤ _
    omega

/-- behind a turn of the frontier: it ends, or it swaps -/
theorem cTurn_among {P : CPar} (hP : CPOk P) {L H O0 o : Int} (hH : H ≤ P.sp) (s : CSt) (hf : frB P.fr L H o = true) (h0 : O0 ≤ P.hi → o ≤ P.hi) (h1 : P.hi < O0 → o = O0) :
    (O0 ≤ P.hi → cTurn P s (frV P.fr L H o) = ⟨⟨5, s.at_, frV P.fr L H o, s.err⟩, 3, 1, frV P.fr L H o, frV (1 - P.fr) o P.hi 0, true⟩) ∧ (P.hi < O0 → cTurn P s (frV P.fr L H o) = cEnd s 240) := by
  obtain ⟨v1, v2, v3, v4, v5⟩ := frV_fw hf
  have ht : turnB P (frV P.fr L H o) = decide (o ≤ P.hi) := by
    unfold turnB
    rw [v1, v2, v4, v5, decide_eq_true (rfl : P.fr = P.fr), decide_eq_true hH]
    rfl
  unfold cTurn
  rw [ht, v5]
  exact ⟨fun h => by rw [decide_eq_true (h0 h), if_pos rfl], fun h => by rw [decide_eq_false (by rw [h1 h]; omega), if_neg (by decide)]⟩
/-- one round -/
theorem ci_step {P : CPar} (hP : CPOk P) {L H O0 : Int} (hH : H ≤ P.sp) {s : CSt} {w : Int} {l : List Int} {o : Int} (h : CI P L H O0 s w l o) :
    ((cNext P s w).is = false → (cNext P s w).st.pl = 6 ∧ (O0 ≤ P.hi → (cNext P s w).st.err = 0 ∧ l.getD 1 0 = frV (1 - P.fr) o P.hi 0 ∧ o ≤ P.hi) ∧ (P.hi < O0 → (cNext P s w).st.err = 240)) ∧
    ((cNext P s w).is = true → ∀ (n : Int) (cs : List (Int × Int)),
      l.getD 1 0 = frV P.fr L H o ∧
      CI P L H O0 (cNext P s w).st (acDo (l.set 1 (frV P.fr L H (clms P.hi L H n o cs))) (cNext P s w).k (cNext P s w).a (cNext P s w).o (cNext P s w).n).1 (acDo (l.set 1 (frV P.fr L H (clms P.hi L H n o cs))) (cNext P s w).k (cNext P s w).a (cNext P s w).o (cNext P s w).n).2 (clms P.hi L H n o cs) ∧
      cMu P (cNext P s w).st + 1 ≤ cMu P s) := by
  have hlen := h.len
  have h32 := hP.s32; have hh0 := hP.h0; have ht1 := hP.t1
  have hpl := h.pl
  have hw0 := h.inv.w0
  have hw1 := h.inv.w1
  have hw3 := h.inv.w3
  have her := h.inv.er (by omega)
  have hph := h.ph
  -- what claims make of it
  have hcl := fun (n : Int) (cs : List (Int × Int)) => clms_le (hi := P.hi) (n := n) cs o h.fr
  have hset1 : ∀ v : Int, (l.set 1 v).getD 1 0 = v := fun v => by rw [List.getD_eq_getElem?_getD, List.getElem?_set_self (by omega)]; rfl
  -- an access that leaves the frontier
  have quiet : ∀ (r : CRes), (r.k = 1 ∨ (r.k = 2 ∧ 5 ≤ r.a)) → ∀ v : Int, (acDo (l.set 1 v) r.k r.a r.o r.n).2.getD 1 0 = v ∧ (r.k = 1 ∧ r.a = 1 → (acDo (l.set 1 v) r.k r.a r.o r.n).1 = v) ∧ (acDo (l.set 1 v) r.k r.a r.o r.n).2.length = l.length := by
    intro r hr v
    refine ⟨?_, ?_, by rw [cDo_len, List.length_set]⟩
    · unfold acDo
      rcases hr with hk | ⟨hk, ha⟩
      · rw [if_pos hk]; exact hset1 v
      · rw [if_neg (by omega), if_pos hk, getD_set_ne (by omega)]; exact hset1 v
    · rintro ⟨hk, ha⟩
      unfold acDo
      rw [if_pos hk, ha]
      exact hset1 v
  have mk : ∀ (r : CRes), CInv P r.st → r.st.pl ≤ 4 → (r.st.pl = 4 → r.k = 1 ∧ r.a = 1) → (r.k = 1 ∨ (r.k = 2 ∧ 5 ≤ r.a)) → ∀ (n : Int) (cs : List (Int × Int)),
      CI P L H O0 r.st (acDo (l.set 1 (frV P.fr L H (clms P.hi L H n o cs))) r.k r.a r.o r.n).1 (acDo (l.set 1 (frV P.fr L H (clms P.hi L H n o cs))) r.k r.a r.o r.n).2 (clms P.hi L H n o cs) := by
    intro r hinv hp4 h4 hk n cs
    obtain ⟨c1, c2, c3, c4⟩ := hcl n cs
    obtain ⟨q1, q2, q3⟩ := quiet r hk (frV P.fr L H (clms P.hi L H n o cs))
    exact ⟨hinv, by rw [q3]; exact hlen, by omega, c2, by have := h.ge; omega, fun e => c3 (h.hi0 e), fun e => by rw [c4 (by rw [h.hi1 e]; exact e), h.hi1 e], .inr ⟨q1, fun e => q2 (h4 e), fun e => by omega⟩⟩
  have notB : s.pl ≠ 5 → l.getD 1 0 = frV P.fr L H o := fun hn => by
    rcases hph with h | h
    · exact absurd h.1 hn
    · exact h.1
  have swap : ∀ (s1 : CSt), CInv P s1 → s1.err = 0 → O0 ≤ P.hi → ∀ (n : Int) (cs : List (Int × Int)),
      CI P L H O0 ⟨5, s1.at_, frV P.fr L H o, s1.err⟩ (acDo (l.set 1 (frV P.fr L H (clms P.hi L H n o cs))) 3 1 (frV P.fr L H o) (frV (1 - P.fr) o P.hi 0)).1 (acDo (l.set 1 (frV P.fr L H (clms P.hi L H n o cs))) 3 1 (frV P.fr L H o) (frV (1 - P.fr) o P.hi 0)).2 (clms P.hi L H n o cs) := by
    intro s1 hi1 he1 hO n cs
    obtain ⟨c1, c2, c3, c4⟩ := hcl n cs
    have hoh := h.hi0 hO
    have ea : acDo (l.set 1 (frV P.fr L H (clms P.hi L H n o cs))) 3 1 (frV P.fr L H o) (frV (1 - P.fr) o P.hi 0) = (frV P.fr L H (clms P.hi L H n o cs), if frV P.fr L H (clms P.hi L H n o cs) = frV P.fr L H o then (l.set 1 (frV P.fr L H (clms P.hi L H n o cs))).set 1 (frV (1 - P.fr) o P.hi 0) else l.set 1 (frV P.fr L H (clms P.hi L H n o cs))) := by
      unfold acDo
      rw [if_neg (by decide), if_neg (by decide)]
      rw [show (1 : Int).toNat = 1 from rfl, hset1]
    rw [ea]
    have hinv5 : CInv P ⟨5, s1.at_, frV P.fr L H o, s1.err⟩ := ⟨by simp, by simp, by simp, by simp, fun _ => he1, frV_range h.fr⟩
    have hge : O0 ≤ clms P.hi L H n o cs := by have := h.ge; omega
    by_cases e : frV P.fr L H (clms P.hi L H n o cs) = frV P.fr L H o
    · rw [if_pos e]
      have eo := frV_inj e
      refine ⟨hinv5, by simp only [List.length_set]; exact hlen, by simp, c2, hge, fun x => c3 (h.hi0 x), fun x => by rw [c4 (by rw [h.hi1 x]; exact x), h.hi1 x], .inl ⟨rfl, e, ?_, by rw [eo]; exact hoh, hO⟩⟩
      show ((l.set 1 (frV P.fr L H (clms P.hi L H n o cs))).set 1 (frV (1 - P.fr) o P.hi 0)).getD 1 0 = _
      rw [List.getD_eq_getElem?_getD, List.getElem?_set_self (by rw [List.length_set]; omega), eo]
      rfl
    · rw [if_neg e]
      exact ⟨hinv5, by simp only [List.length_set]; exact hlen, by simp, c2, hge, fun x => c3 (h.hi0 x), fun x => by rw [c4 (by rw [h.hi1 x]; exact x), h.hi1 x], .inr ⟨hset1 _, (fun x => by cases x), fun _ => ⟨rfl, e, o, rfl, h.fr, c1, hoh, hO⟩⟩⟩
  obtain ⟨pl, at_, was, err⟩ := s
  have hp : pl = 0 ∨ pl = 1 ∨ pl = 2 ∨ pl = 3 ∨ pl = 4 ∨ pl = 5 := by simp at hpl; omega
  dsimp only at her
  subst her
  rcases hp with rfl | rfl | rfl | rfl | rfl | rfl
  · obtain ⟨a0, a1⟩ := hw0 (.inl rfl)
    dsimp only at a0 a1
    have hn : cNext P ⟨0, at_, was, 0⟩ w = cWalk P ⟨0, at_, was, 0⟩ at_ := rfl
    obtain ⟨m1, m2, m3, m4, m5⟩ := cWalk_mu hP ⟨0, at_, was, 0⟩ a0 a1
    rw [hn]
    exact ⟨(fun e => by rw [m1] at e; cases e), fun _ n cs => ⟨notB (by simp), mk _ (cWalk_inv h.inv rfl a0) m3 m4 m5 n cs, m2⟩⟩
  · obtain ⟨a0, a1⟩ := hw1 rfl
    dsimp only at a0 a1
    have hn : cNext P ⟨1, at_, was, 0⟩ w = if cObj P at_ w = true then ⟨⟨2, at_ + hSizeN w P.ss, was, 0⟩, 2, cBase P (1 - P.fr) + at_ + 1, 0, 0, true⟩ else cWalk P ⟨1, at_, was, 0⟩ (at_ + 1) := rfl
    have hby := cBase_range hP (s := 1 - P.fr) (by have := hP.f; omega)
    by_cases hc : cObj P at_ w = true
    · rw [if_pos hc] at hn
      obtain ⟨_, z2, z10, zs⟩ := cObj_ok hc
      rw [hn]
      refine ⟨(fun e => by cases e), fun _ n cs => ⟨notB (by simp), mk ⟨⟨2, at_ + hSizeN w P.ss, was, 0⟩, 2, cBase P (1 - P.fr) + at_ + 1, 0, 0, true⟩ ⟨by simp, fun _ => by dsimp only; omega, by simp, by simp, fun _ => rfl, h.inv.wa⟩ (by dsimp only; omega) (fun e => by cases e) (.inr ⟨rfl, by dsimp only; omega⟩) n cs, ?_⟩⟩
      show (P.sp - (at_ + hSizeN w P.ss) + P.sp + 3 + P.hi).toNat + 1 ≤ (P.sp - at_ - 1 + P.sp + 3 + P.hi).toNat
      omega
    · rw [if_neg hc] at hn
      obtain ⟨m1, m2, m3, m4, m5⟩ := cWalk_mu hP ⟨1, at_, was, 0⟩ (x := at_ + 1) (by omega) (by omega)
      rw [hn]
      refine ⟨(fun e => by rw [m1] at e; cases e), fun _ n cs => ⟨notB (by simp), mk _ (cWalk_inv h.inv rfl (by omega)) m3 m4 m5 n cs, ?_⟩⟩
      show _ ≤ (P.sp - at_ - 1 + P.sp + 3 + P.hi).toNat
      rw [show P.sp - at_ - 1 = P.sp - (at_ + 1) by omega]
      exact m2
  · obtain ⟨a0, a1⟩ := hw0 (.inr rfl)
    dsimp only at a0 a1
    have hn : cNext P ⟨2, at_, was, 0⟩ w = cWalk P ⟨2, at_, was, 0⟩ at_ := rfl
    obtain ⟨m1, m2, m3, m4, m5⟩ := cWalk_mu hP ⟨2, at_, was, 0⟩ a0 a1
    rw [hn]
    exact ⟨(fun e => by rw [m1] at e; cases e), fun _ n cs => ⟨notB (by simp), mk _ (cWalk_inv h.inv rfl a0) m3 m4 m5 n cs, m2⟩⟩
  · obtain ⟨a0, a1⟩ := hw3 rfl
    dsimp only at a0 a1
    have hn : cNext P ⟨3, at_, was, 0⟩ w = cWipe P ⟨3, at_, was, 0⟩ at_ := rfl
    obtain ⟨m1, m2, m3, m4, m5⟩ := cWipe_mu hP ⟨3, at_, was, 0⟩ (x := at_) (by omega) a1
    rw [hn]
    exact ⟨(fun e => by rw [m1] at e; cases e), fun _ n cs => ⟨notB (by simp), mk _ (cWipe_inv h.inv rfl (by omega)) m3 m4 m5 n cs, m2⟩⟩
  · have hn : cNext P ⟨4, at_, was, 0⟩ w = cTurn P ⟨4, at_, was, 0⟩ w := rfl
    have hl1 := notB (by simp)
    obtain ⟨_, hw, _⟩ : l.getD 1 0 = frV P.fr L H o ∧ _ ∧ _ := by
      rcases hph with h | h
      · cases h.1
      · exact h
    have hw := hw rfl
    obtain ⟨t1, t2⟩ := cTurn_among hP hH ⟨4, at_, was, 0⟩ h.fr h.hi0 h.hi1
    rw [hn, hw]
    by_cases hO : O0 ≤ P.hi
    · rw [t1 hO]
      refine ⟨(fun e => by cases e), fun _ n cs => ⟨hl1, swap ⟨4, at_, was, 0⟩ h.inv rfl hO n cs, ?_⟩⟩
      have hO' := h.hi0 hO
      have hfo := frB_ok h.fr
      show (P.hi + 1 - fwO (frV P.fr L H o)).toNat + 1 ≤ (P.hi + 2).toNat
      rw [(frV_fw h.fr).2.2.2.2]
      omega
    · rw [t2 (by omega)]
      exact ⟨fun _ => ⟨rfl, fun e => absurd e hO, fun _ => rfl⟩, (fun e => by cases e)⟩
  · have hn : cNext P ⟨5, at_, was, 0⟩ w = if w = was then cEnd ⟨5, at_, was, 0⟩ 0 else cTurn P ⟨5, at_, was, 0⟩ w := rfl
    rcases hph with ⟨_, hw, hl, ho, hO⟩ | ⟨hl1, _, h5⟩
    · dsimp only at hw
      rw [if_pos hw] at hn
      rw [hn]
      exact ⟨fun _ => ⟨rfl, fun _ => ⟨rfl, hl, ho⟩, (fun e => by omega)⟩, (fun e => by cases e)⟩
    · obtain ⟨hw, hne, o1, hwas, hf1, ho1, ho1h, hO⟩ := h5 rfl
      dsimp only at hne hwas
      rw [if_neg hne] at hn
      obtain ⟨t1, t2⟩ := cTurn_among hP hH ⟨5, at_, was, 0⟩ h.fr h.hi0 h.hi1
      rw [hn, hw, t1 hO]
      refine ⟨(fun e => by cases e), fun _ n cs => ⟨hl1, swap ⟨5, at_, was, 0⟩ h.inv rfl hO n cs, ?_⟩⟩
      have hoh := h.hi0 hO
      have hlt : o1 < o := by
        rcases Int.lt_or_eq_of_le ho1 with e | e
        · exact e
        · exact absurd (by rw [hw, hwas, e]) hne
      show (P.hi + 1 - fwO (frV P.fr L H o)).toNat + 1 ≤ (P.hi + 1 - fwO was).toNat
      rw [(frV_fw h.fr).2.2.2.2, hwas, (frV_fw hf1).2.2.2.2]
      omega
theorem ci_start {P : CPar} (hP : CPOk P) {L H O0 : Int} {l : List Int} (hlen : 3 + 2 * P.t + 2 * P.sp = l.length) (hf : frB P.fr L H O0 = true) (h1 : l.getD 1 0 = frV P.fr L H O0) : CI P L H O0 ⟨0, P.hi, 0, 0⟩ 0 l O0 :=
  ⟨cInv_start hP, hlen, by simp, hf, Int.le_refl _, id, fun _ => rfl, .inr ⟨h1, (fun e => by cases e), (fun e => by cases e)⟩⟩
end Go.Proofs.Ytafenndokmccoaa
