/- An operation's text is read as the operation, and a text that is read is its operation's text: plainly. No program in sight. -/
import Derived.Test.YtlohfcinffaagaaDoorOpS
import Derived.Lib.Join
namespace Go.Proofs.YtlohfcinffaagaaDoor
set_option linter.unusedVariables false
set_option linter.unusedSimpArgs false

def piecesL (o : OpN) : List (List UInt8) := (opName o.k).data.toList :: (opNames o.k).map (fun n => Lib.itoa (o.get n))
def InI (x : Int) : Prop := -9223372036854775808 ≤ x ∧ x ≤ 9223372036854775807
structure Fits (o : OpN) : Prop where
  a : InI o.a
  b : InI o.b
  c : InI o.c
  f : InI o.f
  s : InI o.s
  x : InI o.x
  y : InI o.y

theorem itoa_noblank (v : Int) : ∀ c ∈ Lib.itoa v, c ≠ 32 := by
  have hd : ∀ u, ∀ c ∈ Lib.decDigits u, c ≠ 32 := by
    intro u c hc e
    have := (digs_dec u).1
    rw [List.all_eq_true] at this
    have h2 := this c hc
    subst e
    exact absurd h2 (by decide)
  intro c hc
  unfold Lib.itoa at hc
  split at hc
  · rcases List.mem_cons.1 hc with rfl | hc
    · decide
    · exact hd _ c hc
  · exact hd _ c hc
theorem name_noblank (k : Int) : ∀ c ∈ (opName k).data.toList, c ≠ 32 := by
  cases hk : opIs k with
  | true => rcases kinds_of hk with rfl | rfl | rfl | rfl | rfl | rfl | rfl | rfl | rfl | rfl | rfl <;> decide
  | false =>
    have b1 : k ≤ 0 ∨ 11 < k := by unfold opIs at hk; simp only [decide_eq_false_iff_not] at hk; omega
    have e1 : opName k = ⟨#[]⟩ := by unfold opName; repeat (rw [if_neg (by omega)])
    rw [e1]
    decide
theorem pieces_noblank (o : OpN) : ∀ x ∈ piecesL o, ∀ c ∈ x, c ≠ 32 := by
  intro x hx
  unfold piecesL at hx
  rcases List.mem_cons.1 hx with rfl | hx
  · exact name_noblank _
  · obtain ⟨n, _, rfl⟩ := List.mem_map.1 hx
    exact itoa_noblank _

theorem kind_pieces (o : OpN) (hk : opIs o.k = true) : kindOf (piecesL o) = o.k := by
  refine kindOf_some hk ?_
  unfold kindB piecesL
  simp

theorem read_pieces (o : OpN) (hb : bareB o = true) (hf : Fits o) : readO (piecesL o) = some o := by
  have hk : opIs o.k = true := by unfold bareB at hb; rw [Bool.and_eq_true] at hb; exact hb.1
  have hkp := kind_pieces o hk
  unfold readO
  rw [hkp]
  have wa := wholeV_itoa o.a hf.a.1 hf.a.2
  have wb := wholeV_itoa o.b hf.b.1 hf.b.2
  have wc := wholeV_itoa o.c hf.c.1 hf.c.2
  have wf := wholeV_itoa o.f hf.f.1 hf.f.2
  have ws := wholeV_itoa o.s hf.s.1 hf.s.2
  have wx := wholeV_itoa o.x hf.x.1 hf.x.2
  have wy := wholeV_itoa o.y hf.y.1 hf.y.2
  clear hkp hf
  obtain ⟨k, a, b, c, f, s, x, y⟩ := o
  simp only at hk wa wb wc wf ws wx wy ⊢
  rcases kinds_of hk with rfl | rfl | rfl | rfl | rfl | rfl | rfl | rfl | rfl | rfl | rfl
  all_goals
    simp [bareB, bareOf, opNames, zeroB, OpN.set, opIs] at hb
    simp [opNames, numsTo, piecesL, OpN.get, OpN.set, OpN.only, *]

theorem kindOf_is {l : List (List UInt8)} (h : kindOf l ≠ 0) : opIs (kindOf l) = true ∧ kindB l (kindOf l) = true := by
  have step : ∀ (j y : Int), opIs j = true → (kindB l j = false → y ≠ 0 → opIs y = true ∧ kindB l y = true) → (if kindB l j = true then j else y) ≠ 0 → opIs (if kindB l j = true then j else y) = true ∧ kindB l (if kindB l j = true then j else y) = true := by
    intro j y hj hy hne
    cases hb : kindB l j with
    | true => rw [if_pos rfl]; exact ⟨hj, hb⟩
    | false =>
      rw [hb, if_neg (by decide)] at hne
      rw [if_neg (by decide)]
      exact hy hb hne
  unfold kindOf at h ⊢
  refine step 1 _ (by decide) (fun _ h => ?_) h
  refine step 2 _ (by decide) (fun _ h => ?_) h
  refine step 3 _ (by decide) (fun _ h => ?_) h
  refine step 4 _ (by decide) (fun _ h => ?_) h
  refine step 5 _ (by decide) (fun _ h => ?_) h
  refine step 6 _ (by decide) (fun _ h => ?_) h
  refine step 7 _ (by decide) (fun _ h => ?_) h
  refine step 8 _ (by decide) (fun _ h => ?_) h
  refine step 9 _ (by decide) (fun _ h => ?_) h
  refine step 10 _ (by decide) (fun _ h => ?_) h
  refine step 11 _ (by decide) (fun _ h => ?_) h
  exact absurd rfl h

theorem numsTo_ok {ns : List Nat} {l : List (List UInt8)} {j : Nat} {o p : OpN} (h : numsTo ns l (j + 1) o = some p) : ∃ q v, numsTo ns l j o = some q ∧ Lib.itoa v = l.getD (j + 1) [] ∧ InI v ∧ p = q.set (ns.getD j 0) v := by
  cases hq : numsTo ns l j o with
  | none => unfold numsTo at h; rw [hq] at h; cases h
  | some q =>
    rw [numsTo_step hq] at h
    cases hv : wholeV (l.getD (j + 1) []) with
    | none => rw [hv] at h; cases h
    | some v =>
      rw [hv] at h
      obtain ⟨e1, e2, e3⟩ := wholeV_some hv
      exact ⟨q, v, rfl, e1, ⟨e2, e3⟩, (Option.some.inj h).symm⟩

theorem zero_in : InI 0 := by unfold InI; omega
theorem read_back (l : List (List UInt8)) (o : OpN) (h : readO l = some o) : bareB o = true ∧ Fits o ∧ piecesL o = l := by
  unfold readO at h
  by_cases h0 : kindOf l = 0
  · rw [if_pos h0] at h; cases h
  rw [if_neg h0] at h
  obtain ⟨hk, hkb⟩ := kindOf_is h0
  obtain ⟨k, hke⟩ : ∃ k, kindOf l = k := ⟨_, rfl⟩
  rw [hke] at h hk hkb
  clear h0 hke
  unfold kindB at hkb
  simp only [Bool.and_eq_true, decide_eq_true_eq] at hkb
  obtain ⟨hn, hl⟩ := hkb
  have z := zero_in
  rcases kinds_of hk with rfl | rfl | rfl | rfl | rfl | rfl | rfl | rfl | rfl | rfl | rfl
  all_goals
    simp only [opNames, Int.reduceEq, if_true, if_false, reduceIte, List.length_cons, List.length_nil, Nat.reduceAdd] at h hl
  · obtain ⟨p0, p1, p2, rfl⟩ : ∃ p0 p1 p2, l = [p0, p1, p2] := by
      match l, hl with
      | [p0, p1, p2], _ => exact ⟨p0, p1, p2, rfl⟩
    simp only [List.headD_cons] at hn
    obtain ⟨q1, v1, h1, e1, i1, rfl⟩ := numsTo_ok h
    obtain ⟨q0, v0, h0, e0, i0, rfl⟩ := numsTo_ok h1
    have h9 := Option.some.inj (show some _ = some _ from h0)
    subst h9
    simp at e0 e1
    refine ⟨?_, ?_, ?_⟩
    · simp [bareB, bareOf, opIs, opNames, OpN.set, OpN.only, zeroB]
    · exact ⟨i0, z, z, z, i1, z, z⟩
    · simp [piecesL, OpN.set, OpN.only, OpN.get, opNames, ← hn, e0, e1]
  · obtain ⟨p0, p1, p2, p3, rfl⟩ : ∃ p0 p1 p2 p3, l = [p0, p1, p2, p3] := by
      match l, hl with
      | [p0, p1, p2, p3], _ => exact ⟨p0, p1, p2, p3, rfl⟩
    simp only [List.headD_cons] at hn
    obtain ⟨q2, v2, h2, e2, i2, rfl⟩ := numsTo_ok h
    obtain ⟨q1, v1, h1, e1, i1, rfl⟩ := numsTo_ok h2
    obtain ⟨q0, v0, h0, e0, i0, rfl⟩ := numsTo_ok h1
    have h9 := Option.some.inj (show some _ = some _ from h0)
    subst h9
    simp at e0 e1 e2
    refine ⟨?_, ?_, ?_⟩
    · simp [bareB, bareOf, opIs, opNames, OpN.set, OpN.only, zeroB]
    · exact ⟨i0, i2, z, i1, z, z, z⟩
    · simp [piecesL, OpN.set, OpN.only, OpN.get, opNames, ← hn, e0, e1, e2]
  · obtain ⟨p0, p1, p2, p3, rfl⟩ : ∃ p0 p1 p2 p3, l = [p0, p1, p2, p3] := by
      match l, hl with
      | [p0, p1, p2, p3], _ => exact ⟨p0, p1, p2, p3, rfl⟩
    simp only [List.headD_cons] at hn
    obtain ⟨q2, v2, h2, e2, i2, rfl⟩ := numsTo_ok h
    obtain ⟨q1, v1, h1, e1, i1, rfl⟩ := numsTo_ok h2
    obtain ⟨q0, v0, h0, e0, i0, rfl⟩ := numsTo_ok h1
    have h9 := Option.some.inj (show some _ = some _ from h0)
    subst h9
    simp at e0 e1 e2
    refine ⟨?_, ?_, ?_⟩
    · simp [bareB, bareOf, opIs, opNames, OpN.set, OpN.only, zeroB]
    · exact ⟨i0, i2, z, i1, z, z, z⟩
    · simp [piecesL, OpN.set, OpN.only, OpN.get, opNames, ← hn, e0, e1, e2]
  · obtain ⟨p0, p1, p2, p3, p4, rfl⟩ : ∃ p0 p1 p2 p3 p4, l = [p0, p1, p2, p3, p4] := by
      match l, hl with
      | [p0, p1, p2, p3, p4], _ => exact ⟨p0, p1, p2, p3, p4, rfl⟩
    simp only [List.headD_cons] at hn
    obtain ⟨q3, v3, h3, e3, i3, rfl⟩ := numsTo_ok h
    obtain ⟨q2, v2, h2, e2, i2, rfl⟩ := numsTo_ok h3
    obtain ⟨q1, v1, h1, e1, i1, rfl⟩ := numsTo_ok h2
    obtain ⟨q0, v0, h0, e0, i0, rfl⟩ := numsTo_ok h1
    have h9 := Option.some.inj (show some _ = some _ from h0)
    subst h9
    simp at e0 e1 e2 e3
    refine ⟨?_, ?_, ?_⟩
    · simp [bareB, bareOf, opIs, opNames, OpN.set, OpN.only, zeroB]
    · exact ⟨i0, i2, i3, i1, z, z, z⟩
    · simp [piecesL, OpN.set, OpN.only, OpN.get, opNames, ← hn, e0, e1, e2, e3]
  · obtain ⟨p0, p1, p2, rfl⟩ : ∃ p0 p1 p2, l = [p0, p1, p2] := by
      match l, hl with
      | [p0, p1, p2], _ => exact ⟨p0, p1, p2, rfl⟩
    simp only [List.headD_cons] at hn
    obtain ⟨q1, v1, h1, e1, i1, rfl⟩ := numsTo_ok h
    obtain ⟨q0, v0, h0, e0, i0, rfl⟩ := numsTo_ok h1
    have h9 := Option.some.inj (show some _ = some _ from h0)
    subst h9
    simp at e0 e1
    refine ⟨?_, ?_, ?_⟩
    · simp [bareB, bareOf, opIs, opNames, OpN.set, OpN.only, zeroB]
    · exact ⟨i0, z, z, i1, z, z, z⟩
    · simp [piecesL, OpN.set, OpN.only, OpN.get, opNames, ← hn, e0, e1]
  · obtain ⟨p0, p1, p2, p3, rfl⟩ : ∃ p0 p1 p2 p3, l = [p0, p1, p2, p3] := by
      match l, hl with
      | [p0, p1, p2, p3], _ => exact ⟨p0, p1, p2, p3, rfl⟩
    simp only [List.headD_cons] at hn
    obtain ⟨q2, v2, h2, e2, i2, rfl⟩ := numsTo_ok h
    obtain ⟨q1, v1, h1, e1, i1, rfl⟩ := numsTo_ok h2
    obtain ⟨q0, v0, h0, e0, i0, rfl⟩ := numsTo_ok h1
    have h9 := Option.some.inj (show some _ = some _ from h0)
    subst h9
    simp at e0 e1 e2
    refine ⟨?_, ?_, ?_⟩
    · simp [bareB, bareOf, opIs, opNames, OpN.set, OpN.only, zeroB]
    · exact ⟨i0, z, z, i1, z, i2, z⟩
    · simp [piecesL, OpN.set, OpN.only, OpN.get, opNames, ← hn, e0, e1, e2]
  · obtain ⟨p0, p1, p2, p3, p4, rfl⟩ : ∃ p0 p1 p2 p3 p4, l = [p0, p1, p2, p3, p4] := by
      match l, hl with
      | [p0, p1, p2, p3, p4], _ => exact ⟨p0, p1, p2, p3, p4, rfl⟩
    simp only [List.headD_cons] at hn
    obtain ⟨q3, v3, h3, e3, i3, rfl⟩ := numsTo_ok h
    obtain ⟨q2, v2, h2, e2, i2, rfl⟩ := numsTo_ok h3
    obtain ⟨q1, v1, h1, e1, i1, rfl⟩ := numsTo_ok h2
    obtain ⟨q0, v0, h0, e0, i0, rfl⟩ := numsTo_ok h1
    have h9 := Option.some.inj (show some _ = some _ from h0)
    subst h9
    simp at e0 e1 e2 e3
    refine ⟨?_, ?_, ?_⟩
    · simp [bareB, bareOf, opIs, opNames, OpN.set, OpN.only, zeroB]
    · exact ⟨i0, z, z, i1, z, i2, i3⟩
    · simp [piecesL, OpN.set, OpN.only, OpN.get, opNames, ← hn, e0, e1, e2, e3]
  · obtain ⟨p0, p1, p2, rfl⟩ : ∃ p0 p1 p2, l = [p0, p1, p2] := by
      match l, hl with
      | [p0, p1, p2], _ => exact ⟨p0, p1, p2, rfl⟩
    simp only [List.headD_cons] at hn
    obtain ⟨q1, v1, h1, e1, i1, rfl⟩ := numsTo_ok h
    obtain ⟨q0, v0, h0, e0, i0, rfl⟩ := numsTo_ok h1
    have h9 := Option.some.inj (show some _ = some _ from h0)
    subst h9
    simp at e0 e1
    refine ⟨?_, ?_, ?_⟩
    · simp [bareB, bareOf, opIs, opNames, OpN.set, OpN.only, zeroB]
    · exact ⟨i0, i1, z, z, z, z, z⟩
    · simp [piecesL, OpN.set, OpN.only, OpN.get, opNames, ← hn, e0, e1]
  · obtain ⟨p0, p1, p2, rfl⟩ : ∃ p0 p1 p2, l = [p0, p1, p2] := by
      match l, hl with
      | [p0, p1, p2], _ => exact ⟨p0, p1, p2, rfl⟩
    simp only [List.headD_cons] at hn
    obtain ⟨q1, v1, h1, e1, i1, rfl⟩ := numsTo_ok h
    obtain ⟨q0, v0, h0, e0, i0, rfl⟩ := numsTo_ok h1
    have h9 := Option.some.inj (show some _ = some _ from h0)
    subst h9
    simp at e0 e1
    refine ⟨?_, ?_, ?_⟩
    · simp [bareB, bareOf, opIs, opNames, OpN.set, OpN.only, zeroB]
    · exact ⟨i0, i1, z, z, z, z, z⟩
    · simp [piecesL, OpN.set, OpN.only, OpN.get, opNames, ← hn, e0, e1]
  · obtain ⟨p0, p1, rfl⟩ : ∃ p0 p1, l = [p0, p1] := by
      match l, hl with
      | [p0, p1], _ => exact ⟨p0, p1, rfl⟩
    simp only [List.headD_cons] at hn
    obtain ⟨q0, v0, h0, e0, i0, rfl⟩ := numsTo_ok h
    have h9 := Option.some.inj (show some _ = some _ from h0)
    subst h9
    simp at e0
    refine ⟨?_, ?_, ?_⟩
    · simp [bareB, bareOf, opIs, opNames, OpN.set, OpN.only, zeroB]
    · exact ⟨i0, z, z, z, z, z, z⟩
    · simp [piecesL, OpN.set, OpN.only, OpN.get, opNames, ← hn, e0]
  · obtain ⟨p0, rfl⟩ : ∃ p0, l = [p0] := by
      match l, hl with
      | [p0], _ => exact ⟨p0, rfl⟩
    simp only [List.headD_cons] at hn
    have h9 := Option.some.inj (show some _ = some _ from h)
    subst h9
    refine ⟨?_, ?_, ?_⟩
    · decide
    · exact ⟨z, z, z, z, z, z, z⟩
    · simp [piecesL, OpN.set, OpN.only, OpN.get, opNames, ← hn]

theorem splitSp_cut (p r : List UInt8) (h : ∀ c ∈ p, c ≠ 32) : splitSp (p ++ 32 :: r) = p :: splitSp r := by
  induction p with
  | nil => simp [splitSp]
  | cons c p ih =>
    rw [List.cons_append, splitSp, if_neg (h c (by simp)), ih (fun x hx => h x (by simp [hx]))]
theorem splitSp_end (p : List UInt8) (h : ∀ c ∈ p, c ≠ 32) : splitSp p = [p] := by
  induction p with
  | nil => rfl
  | cons c p ih => rw [splitSp, if_neg (h c (by simp)), ih (fun x hx => h x (by simp [hx]))]

theorem split_join (xs : List (List UInt8)) (h0 : xs ≠ []) (h : ∀ x ∈ xs, ∀ c ∈ x, c ≠ 32) : splitSp (Lib.join xs [32]) = xs := by
  cases xs with
  | nil => exact absurd rfl h0
  | cons x r =>
    clear h0
    induction r generalizing x with
    | nil => rw [Lib.join_one]; exact splitSp_end x (h x (by simp))
    | cons y r ih =>
      have e : Lib.join (x :: y :: r) [32] = x ++ 32 :: Lib.join (y :: r) [32] := by
        rw [Lib.join_cons, Lib.join_cons]; simp [Lib.joinTail]
      rw [e, splitSp_cut _ _ (h x (by simp)), ih y (fun z hz => h z (by simp at hz ⊢; exact .inr hz))]
theorem join_split (l : List UInt8) : Lib.join (splitSp l) [32] = l := by
  induction l with
  | nil => rfl
  | cons c cs ih =>
    unfold splitSp
    have hne := splitSp_ne cs
    by_cases hc : c = 32
    · rw [if_pos hc]
      cases hs : splitSp cs with
      | nil => exact absurd hs hne
      | cons p ps =>
        rw [hs] at ih
        rw [Lib.join_cons] at ih ⊢
        subst hc
        rw [← ih]
        simp [Lib.joinTail]
    · rw [if_neg hc]
      cases hs : splitSp cs with
      | nil => exact absurd hs hne
      | cons p ps =>
        rw [hs] at ih
        rw [Lib.join_cons] at ih ⊢
        rw [← ih]
        rfl

/-- the text -/
theorem text_read (o : OpN) (hb : bareB o = true) (hf : Fits o) : readO (splitSp (Lib.join (piecesL o) [32])) = some o := by
  rw [split_join _ (by unfold piecesL; simp) (pieces_noblank o)]
  exact read_pieces o hb hf
theorem read_text (l : List UInt8) (o : OpN) (h : readO (splitSp l) = some o) : bareB o = true ∧ Fits o ∧ Lib.join (piecesL o) [32] = l := by
  obtain ⟨h1, h2, h3⟩ := read_back _ _ h
  exact ⟨h1, h2, by rw [h3, join_split]⟩

theorem itoa_digit (n : Nat) (h : n < 10) : Lib.itoa n = [UInt8.ofNat (48 + n)] := by
  unfold Lib.itoa
  rw [if_neg (by omega), Int.toNat_natCast, decDigits_one _ h, Nat.mod_eq_of_lt h]
theorem itoa_m5 : Lib.itoa (-5) = [45, 53] := by
  unfold Lib.itoa
  rw [if_pos (by decide), show ((-5 : Int)).natAbs = 5 from rfl, decDigits_one 5 (by decide)]
  rfl
theorem read_cas : readO (splitSp [99, 97, 115, 32, 48, 32, 49, 32, 50, 32, 51]) = some ⟨4, 0, 2, 3, 1, 0, 0, 0⟩ := by
  have h := read_pieces ⟨4, 0, 2, 3, 1, 0, 0, 0⟩ (by decide) ⟨by unfold InI; decide, by unfold InI; decide, by unfold InI; decide, by unfold InI; decide, by unfold InI; decide, by unfold InI; decide, by unfold InI; decide⟩
  have e : piecesL ⟨4, 0, 2, 3, 1, 0, 0, 0⟩ = splitSp [99, 97, 115, 32, 48, 32, 49, 32, 50, 32, 51] := by
    show [[99, 97, 115], Lib.itoa ((0 : Nat) : Int), Lib.itoa ((1 : Nat) : Int), Lib.itoa ((2 : Nat) : Int), Lib.itoa ((3 : Nat) : Int)] = _
    rw [itoa_digit 0 (by decide), itoa_digit 1 (by decide), itoa_digit 2 (by decide), itoa_digit 3 (by decide)]
    decide
  rw [← e]
  exact h
theorem read_puti : readO (splitSp [112, 117, 116, 105, 32, 48, 32, 49, 32, 45, 53]) = some ⟨6, 0, 0, 0, 1, 0, -5, 0⟩ := by
  have h := read_pieces ⟨6, 0, 0, 0, 1, 0, -5, 0⟩ (by decide) ⟨by unfold InI; decide, by unfold InI; decide, by unfold InI; decide, by unfold InI; decide, by unfold InI; decide, by unfold InI; decide, by unfold InI; decide⟩
  have e : piecesL ⟨6, 0, 0, 0, 1, 0, -5, 0⟩ = splitSp [112, 117, 116, 105, 32, 48, 32, 49, 32, 45, 53] := by
    show [[112, 117, 116, 105], Lib.itoa ((0 : Nat) : Int), Lib.itoa ((1 : Nat) : Int), Lib.itoa (-5)] = _
    rw [itoa_digit 0 (by decide), itoa_digit 1 (by decide), itoa_m5]
    decide
  rw [← e]
  exact h
theorem read_bad : readO (splitSp [112, 117, 116, 105, 32, 48, 32, 49, 32, 48, 53]) = none := by
  cases h : readO (splitSp [112, 117, 116, 105, 32, 48, 32, 49, 32, 48, 53]) with
  | none => rfl
  | some o =>
    exfalso
    have hs : splitSp [112, 117, 116, 105, 32, 48, 32, 49, 32, 48, 53] = [[112, 117, 116, 105], [48], [49], [48, 53]] := by decide
    rw [hs] at h
    unfold readO at h
    have hk : kindOf [[112, 117, 116, 105], [48], [49], [48, 53]] = 6 := by decide
    rw [hk, if_neg (by decide)] at h
    obtain ⟨q, v, h2, e, i, rfl⟩ := numsTo_ok (j := 2) h
    have hw : wholeV [48, 53] = none := by rw [wholeV_eq]; decide
    have hv := wholeV_itoa v i.1 i.2
    rw [e] at hv
    have : ([[112, 117, 116, 105], [48], [49], [48, 53]] : List (List UInt8)).getD (2 + 1) [] = [48, 53] := rfl
    rw [this, hw] at hv
    cases hv

end Go.Proofs.YtlohfcinffaagaaDoor
