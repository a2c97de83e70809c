/- Decimal numerals, plainly: what ParseInt tells of a text, and which texts are a number's own. No program in sight. -/
import Derived.Lib.ItoaNum
import Derived.Lib.ParseIntB
namespace Go.Proofs.YtlohfcinffaagaaDoor
set_option linter.unusedVariables false
set_option linter.unusedSimpArgs false

def digOk (c : UInt8) : Bool := decide (48 ≤ c.toNat ∧ c.toNat ≤ 57)
def decA : Nat → List UInt8 → Nat
  | acc, [] => acc
  | acc, c :: r => decA (acc * 10 + (c.toNat - 48)) r
theorem pow_step (a n : Nat) : a * 10 ^ (n + 1) = a * 10 * 10 ^ n := by rw [Nat.pow_succ, Nat.mul_comm (10 ^ n) 10, Nat.mul_assoc]
theorem decA_ge (l : List UInt8) : ∀ (acc : Nat), acc * 10 ^ l.length ≤ decA acc l := by
  induction l with
  | nil => intro acc; show acc * 10 ^ 0 ≤ acc; rw [Nat.pow_zero, Nat.mul_one]; exact Nat.le_refl _
  | cons c r ih =>
    intro acc
    have h1 := ih (acc * 10 + (c.toNat - 48))
    have h2 : acc * 10 * 10 ^ r.length ≤ (acc * 10 + (c.toNat - 48)) * 10 ^ r.length := Nat.mul_le_mul_right _ (Nat.le_add_right _ _)
    have h3 := pow_step acc r.length
    have h4 : decA acc (c :: r) = decA (acc * 10 + (c.toNat - 48)) r := rfl
    rw [List.length_cons, h3, h4]
    exact Nat.le_trans h2 h1
theorem decA_le_self (l : List UInt8) (acc : Nat) : acc ≤ decA acc l := by
  have h := decA_ge l acc
  have h1 : 1 ≤ 10 ^ l.length := Nat.pos_of_ne_zero (by simp)
  have h2 : acc * 1 ≤ acc * 10 ^ l.length := Nat.mul_le_mul_left _ h1
  rw [Nat.mul_one] at h2
  exact Nat.le_trans h2 h
theorem decA_lt (l : List UInt8) : ∀ (acc : Nat), l.all digOk = true → decA acc l < (acc + 1) * 10 ^ l.length := by
  induction l with
  | nil => intro acc _; show acc < (acc + 1) * 10 ^ 0; rw [Nat.pow_zero, Nat.mul_one]; omega
  | cons c r ih =>
    intro acc h
    rw [List.all_cons, Bool.and_eq_true] at h
    have hc : 48 ≤ c.toNat ∧ c.toNat ≤ 57 := by simpa [digOk] using h.1
    have h1 := ih (acc * 10 + (c.toNat - 48)) h.2
    have h2 : (acc * 10 + (c.toNat - 48) + 1) * 10 ^ r.length ≤ ((acc + 1) * 10) * 10 ^ r.length := Nat.mul_le_mul_right _ (by omega)
    have h3 := pow_step (acc + 1) r.length
    have h4 : decA acc (c :: r) = decA (acc * 10 + (c.toNat - 48)) r := rfl
    rw [List.length_cons, h3, h4]
    exact Nat.lt_of_lt_of_le h1 h2
theorem parseUintM_ok (M : Nat) (l : List UInt8) : ∀ (acc u : Nat), Lib.parseUintM M acc l = .ok u → u = decA acc l := by
  induction l with
  | nil => intro acc u h; exact (Lib.NumEnd.ok.inj h).symm
  | cons c r ih =>
    intro acc u h
    have h4 : decA acc (c :: r) = decA (acc * 10 + (c.toNat - 48)) r := rfl
    rw [h4]
    unfold Lib.parseUintM at h
    by_cases h1 : 48 ≤ c.toNat ∧ c.toNat ≤ 57
    · rw [if_pos h1] at h
      by_cases h2 : 1844674407370955162 ≤ acc
      · rw [if_pos h2] at h; cases h
      · rw [if_neg h2] at h
        by_cases h3 : M < acc * 10 + (c.toNat - 48)
        · rw [if_pos h3] at h; cases h
        · rw [if_neg h3] at h
          exact ih _ u h
    · rw [if_neg h1] at h; cases h

theorem decA_snoc (l : List UInt8) : ∀ (acc : Nat) (c : UInt8), decA acc (l ++ [c]) = decA acc l * 10 + (c.toNat - 48) := by
  induction l with
  | nil => intro acc c; rfl
  | cons x r ih => intro acc c; exact ih _ c
theorem decDigits_ten (u : Nat) (h : ¬ u < 10) : Lib.decDigits u = Lib.decDigits (u / 10) ++ [UInt8.ofNat (48 + u % 10)] := by
  conv => lhs; rw [Lib.decDigits, dif_neg h]
theorem decDigits_one (u : Nat) (h : u < 10) : Lib.decDigits u = [UInt8.ofNat (48 + u % 10)] := by
  rw [Lib.decDigits, dif_pos h, Nat.mod_eq_of_lt h]
theorem digit_at (n : Nat) (h : n < 10) : (UInt8.ofNat (48 + n)).toNat = 48 + n := by
  rw [UInt8.toNat_ofNat']; omega
theorem digs_dec (u : Nat) : (Lib.decDigits u).all digOk = true ∧ decA 0 (Lib.decDigits u) = u ∧ Lib.decDigits u ≠ [] ∧ (u = 0 → Lib.decDigits u = [48]) ∧ (u ≠ 0 → (Lib.decDigits u).head? ≠ some 48) := by
  induction u using Nat.strongRecOn with
  | ind u ih =>
    by_cases h : u < 10
    · rw [decDigits_one u h]
      have hm : u % 10 = u := by omega
      have hd := digit_at u h
      rw [hm]
      refine ⟨by simp [digOk, hd]; omega, ?_, by simp, ?_, ?_⟩
      · show 0 * 10 + ((UInt8.ofNat (48 + u)).toNat - 48) = u
        rw [hd]; omega
      · intro e; subst e; rfl
      · intro e h48
        have : UInt8.ofNat (48 + u) = 48 := by simpa using h48
        have h2 := congrArg UInt8.toNat this
        rw [hd] at h2
        simp at h2
        exact e h2
    · obtain ⟨i1, i2, i3, _, i5⟩ := ih (u / 10) (by omega)
      have hd := digit_at (u % 10) (by omega)
      rw [decDigits_ten u h]
      refine ⟨?_, ?_, by simp, fun e => by omega, fun _ => ?_⟩
      · rw [List.all_append, i1]; simp [digOk, hd]; omega
      · rw [decA_snoc, i2, hd]; omega
      · cases hq : Lib.decDigits (u / 10) with
        | nil => exact absurd hq i3
        | cons x y => rw [hq] at i5; simpa using i5 (by omega)
theorem parseUintM_fits (M : Nat) (hM : M ≤ 18446744073709551615) (l : List UInt8) : ∀ (acc : Nat), l.all digOk = true → decA acc l ≤ M → Lib.parseUintM M acc l = .ok (decA acc l) := by
  induction l with
  | nil => intro acc _ _; rfl
  | cons c r ih =>
    intro acc h hl
    rw [List.all_cons, Bool.and_eq_true] at h
    have hc : 48 ≤ c.toNat ∧ c.toNat ≤ 57 := by simpa [digOk] using h.1
    have h4 : decA acc (c :: r) = decA (acc * 10 + (c.toNat - 48)) r := rfl
    rw [h4] at hl ⊢
    have h1 := decA_le_self r (acc * 10 + (c.toNat - 48))
    unfold Lib.parseUintM
    rw [if_pos hc, if_neg (by omega), if_neg (by omega)]
    exact ih _ h.2 hl

/-- a numeral without leading noughts is its number's own -/
def canonB (l : List UInt8) : Bool := l.all digOk && (!l.isEmpty && (l.head? != some 48 || l == [48]))
theorem canon_parts {l : List UInt8} (h : canonB l = true) : l.all digOk = true ∧ l ≠ [] ∧ (l.head? ≠ some 48 ∨ l = [48]) := by
  unfold canonB at h
  simp only [Bool.and_eq_true, Bool.not_eq_true', List.isEmpty_eq_false_iff, Bool.or_eq_true, bne_iff_ne, beq_iff_eq] at h
  exact ⟨h.1, h.2.1, h.2.2⟩
theorem canon_of {l : List UInt8} (h1 : l.all digOk = true) (h2 : l ≠ []) (h3 : l.head? ≠ some 48 ∨ l = [48]) : canonB l = true := by
  unfold canonB
  simp only [Bool.and_eq_true, Bool.not_eq_true', List.isEmpty_eq_false_iff, Bool.or_eq_true, bne_iff_ne, beq_iff_eq]
  exact ⟨h1, h2, h3⟩
theorem canon_dec (u : Nat) : canonB (Lib.decDigits u) = true := by
  obtain ⟨i1, _, i3, i4, i5⟩ := digs_dec u
  refine canon_of i1 i3 ?_
  by_cases h : u = 0
  · exact .inr (i4 h)
  · exact .inl (i5 h)
theorem byte_dig {c : UInt8} (h : digOk c = true) : UInt8.ofNat (48 + (c.toNat - 48)) = c := by
  have hc : 48 ≤ c.toNat ∧ c.toNat ≤ 57 := by simpa [digOk] using h
  apply UInt8.toNat_inj.1
  rw [UInt8.toNat_ofNat']
  omega
theorem dec_canonN : ∀ (n : Nat) (l : List UInt8), l.length = n → l.all digOk = true → l ≠ [] → (l.head? ≠ some 48 ∨ l = [48]) → Lib.decDigits (decA 0 l) = l ∧ (l ≠ [48] → 1 ≤ decA 0 l) := by
  intro n
  induction n with
  | zero => intro l h _ h0 _; exact absurd (List.eq_nil_of_length_eq_zero h) h0
  | succ n ih =>
    intro l hl ha h0 hh
    obtain ⟨r, c, rfl⟩ : ∃ r c, l = r ++ [c] := ⟨l.dropLast, l.getLast h0, (List.dropLast_concat_getLast h0).symm⟩
    rw [List.all_append, Bool.and_eq_true] at ha
    have hc : digOk c = true := by simpa using ha.2
    have hcb : 48 ≤ c.toNat ∧ c.toNat ≤ 57 := by simpa [digOk] using hc
    rw [decA_snoc]
    by_cases hr : r = []
    · subst hr
      have e0 : decA 0 [] = 0 := rfl
      rw [e0, decDigits_one _ (by omega)]
      refine ⟨?_, fun hne => ?_⟩
      · have : (0 * 10 + (c.toNat - 48)) % 10 = c.toNat - 48 := by omega
        rw [this, byte_dig hc]; rfl
      · have : c.toNat ≠ 48 := fun e => hne (by have := UInt8.toNat_inj.1 (show c.toNat = (48 : UInt8).toNat from e); rw [this]; rfl)
        omega
    · have hr1 : r.head? ≠ some 48 := by
        rcases hh with hh | hh
        · cases r with
          | nil => exact absurd rfl hr
          | cons x y => simpa using hh
        · have := congrArg List.length hh
          simp at this
          exact absurd this hr
      have hn48 : r ≠ [48] := fun e => hr1 (by rw [e]; rfl)
      obtain ⟨i1, i2⟩ := ih r (by simp at hl; omega) ha.1 hr (.inl hr1)
      have i3 := i2 hn48
      refine ⟨?_, fun _ => by omega⟩
      rw [decDigits_ten _ (by omega)]
      have e1 : (decA 0 r * 10 + (c.toNat - 48)) / 10 = decA 0 r := by omega
      have e2 : (decA 0 r * 10 + (c.toNat - 48)) % 10 = c.toNat - 48 := by omega
      rw [e1, e2, i1, byte_dig hc]
theorem dec_canon {l : List UInt8} (h : canonB l = true) : Lib.decDigits (decA 0 l) = l := by
  obtain ⟨h1, h2, h3⟩ := canon_parts h
  exact (dec_canonN _ l rfl h1 h2 h3).1

/-- the number that a text is, if it is the number's own and of 64 bits -/
def wholeV (l : List UInt8) : Option Int := match Lib.parseIntB 64 l with
  | .ok v => if Lib.itoa v = l then some v else none
  | _ => none
theorem parse_itoa (v : Int) (h0 : -9223372036854775808 ≤ v) (h1 : v ≤ 9223372036854775807) : Lib.parseIntB 64 (Lib.itoa v) = .ok v := by
  obtain ⟨i1, i2, i3, i4, i5⟩ := digs_dec v.natAbs
  have hU : Lib.parseUintB 64 (Lib.decDigits v.natAbs) = .ok v.natAbs := by
    unfold Lib.parseUintB
    rw [if_neg i3, parseUintM_fits _ (by decide) _ _ i1 (by rw [i2]; omega), i2]
  by_cases h : v < 0
  · have e : Lib.itoa v = 45 :: Lib.decDigits v.natAbs := by unfold Lib.itoa; rw [if_pos h]
    rw [e]
    unfold Lib.parseIntB
    have hp : ((45 : UInt8).toNat = 43 ∨ (45 : UInt8).toNat = 45) := .inr rfl
    simp only [if_pos hp, hU]
    have e45 : ((45 : UInt8).toNat = 45) := rfl
    have k1 : ¬ (¬ ((45 : UInt8).toNat = 45) ∧ 2 ^ (64 - 1) ≤ v.natAbs) := fun x => x.1 e45
    have k2 : ¬ ((45 : UInt8).toNat = 45 ∧ 2 ^ (64 - 1) < v.natAbs) := by omega
    rw [if_neg k1, if_neg k2, if_pos e45]
    congr 1
    omega
  · have e : Lib.itoa v = Lib.decDigits v.natAbs := by
      unfold Lib.itoa; rw [if_neg h]; congr 1; omega
    rw [e]
    cases hq : Lib.decDigits v.natAbs with
    | nil => exact absurd hq i3
    | cons c r =>
      rw [hq] at i1 hU
      have hc : 48 ≤ c.toNat ∧ c.toNat ≤ 57 := by rw [List.all_cons, Bool.and_eq_true] at i1; simpa [digOk] using i1.1
      unfold Lib.parseIntB
      have hp : ¬ (c.toNat = 43 ∨ c.toNat = 45) := by omega
      simp only [if_neg hp, hU]
      have k1 : ¬ (¬ (c.toNat = 45) ∧ 2 ^ (64 - 1) ≤ v.natAbs) := by omega
      have k2 : ¬ (c.toNat = 45 ∧ 2 ^ (64 - 1) < v.natAbs) := by omega
      rw [if_neg k1, if_neg k2, if_neg (by omega)]
      congr 1
      omega
theorem wholeV_itoa (v : Int) (h0 : -9223372036854775808 ≤ v) (h1 : v ≤ 9223372036854775807) : wholeV (Lib.itoa v) = some v := by
  unfold wholeV
  rw [parse_itoa v h0 h1]
  simp
theorem parse_bounds {l : List UInt8} {v : Int} (h : Lib.parseIntB 64 l = .ok v) : -9223372036854775808 ≤ v ∧ v ≤ 9223372036854775807 := by
  cases l with
  | nil => cases h
  | cons c r =>
    unfold Lib.parseIntB at h
    simp only at h
    cases hu : Lib.parseUintB 64 (if c.toNat = 43 ∨ c.toNat = 45 then r else c :: r) with
    | range => rw [hu] at h; cases h
    | ok u =>
      rw [hu] at h
      simp only at h
      by_cases k1 : ¬ (c.toNat = 45) ∧ 2 ^ (64 - 1) ≤ u
      · rw [if_pos k1] at h; cases h
      · rw [if_neg k1] at h
        by_cases k2 : c.toNat = 45 ∧ 2 ^ (64 - 1) < u
        · rw [if_pos k2] at h; cases h
        · rw [if_neg k2] at h
          have := Lib.NumEnd.ok.inj h
          by_cases k3 : c.toNat = 45
          · rw [if_pos k3] at this; omega
          · rw [if_neg k3] at this; omega
    | _ => rw [hu] at h; cases h
theorem wholeV_some {l : List UInt8} {v : Int} (h : wholeV l = some v) : Lib.itoa v = l ∧ -9223372036854775808 ≤ v ∧ v ≤ 9223372036854775807 := by
  unfold wholeV at h
  cases hp : Lib.parseIntB 64 l with
  | ok u =>
    rw [hp] at h
    simp only at h
    by_cases e : Lib.itoa u = l
    · rw [if_pos e] at h
      cases h
      exact ⟨e, parse_bounds hp⟩
    · rw [if_neg e] at h; cases h
  | _ => rw [hp] at h; cases h

/-- the same, digit by digit -/
def wholeD (l : List UInt8) : Option Int :=
  if l.head? = some 45 then (if canonB l.tail = true ∧ l.tail ≠ [48] ∧ decA 0 l.tail ≤ 9223372036854775808 then some (-(decA 0 l.tail : Int)) else none)
  else if canonB l = true ∧ decA 0 l < 9223372036854775808 then some (decA 0 l : Int) else none
theorem wholeV_eq (l : List UInt8) : wholeV l = wholeD l := by
  unfold wholeD
  by_cases hm : l.head? = some 45
  · rw [if_pos hm]
    by_cases hc : canonB l.tail = true ∧ l.tail ≠ [48] ∧ decA 0 l.tail ≤ 9223372036854775808
    · rw [if_pos hc]
      obtain ⟨c1, c2, c3⟩ := hc
      have hpos : 1 ≤ decA 0 l.tail := by
        obtain ⟨p1, p2, p3⟩ := canon_parts c1
        exact (dec_canonN _ _ rfl p1 p2 p3).2 c2
      have e : Lib.itoa (-(decA 0 l.tail : Int)) = l := by
        unfold Lib.itoa
        rw [if_pos (by omega), show (-(decA 0 l.tail : Int)).natAbs = decA 0 l.tail by omega, dec_canon c1]
        cases l with
        | nil => cases hm
        | cons x y => simp only [List.head?_cons, Option.some.injEq] at hm; rw [hm]; rfl
      have := wholeV_itoa (-(decA 0 l.tail : Int)) (by omega) (by omega)
      rwa [e] at this
    · rw [if_neg hc]
      cases hv : wholeV l with
      | none => rfl
      | some v =>
        exfalso
        obtain ⟨e, b0, b1⟩ := wholeV_some hv
        by_cases hn : v < 0
        · have e2 : l = 45 :: Lib.decDigits v.natAbs := by rw [← e]; unfold Lib.itoa; rw [if_pos hn]
          obtain ⟨i1, i2, i3, i4, i5⟩ := digs_dec v.natAbs
          apply hc
          rw [e2]
          refine ⟨canon_dec _, ?_, ?_⟩
          · intro h
            have h' : Lib.decDigits v.natAbs = [48] := h
            have := i2; rw [h'] at this
            have e3 : decA 0 [48] = 0 := rfl
            rw [e3] at this; omega
          · show decA 0 (Lib.decDigits v.natAbs) ≤ _
            rw [i2]; omega
        · have e2 : l = Lib.decDigits v.toNat := by rw [← e]; unfold Lib.itoa; rw [if_neg hn]
          obtain ⟨i1, i2, i3, i4, i5⟩ := digs_dec v.toNat
          rw [← e2] at i1
          cases l with
          | nil => cases hm
          | cons x y =>
            simp only [List.head?_cons, Option.some.injEq] at hm
            rw [hm, List.all_cons, Bool.and_eq_true] at i1
            exact absurd i1.1 (by decide)
  · rw [if_neg hm]
    by_cases hc : canonB l = true ∧ decA 0 l < 9223372036854775808
    · rw [if_pos hc]
      have e : Lib.itoa (decA 0 l : Int) = l := by
        unfold Lib.itoa
        rw [if_neg (by omega), show ((decA 0 l : Nat) : Int).toNat = decA 0 l by omega, dec_canon hc.1]
      have := wholeV_itoa (decA 0 l : Int) (by omega) (by omega)
      rwa [e] at this
    · rw [if_neg hc]
      cases hv : wholeV l with
      | none => rfl
      | some v =>
        exfalso
        obtain ⟨e, b0, b1⟩ := wholeV_some hv
        by_cases hn : v < 0
        · apply hm
          rw [← e]; unfold Lib.itoa; rw [if_pos hn]; rfl
        · have e2 : l = Lib.decDigits v.toNat := by rw [← e]; unfold Lib.itoa; rw [if_neg hn]
          obtain ⟨i1, i2, i3, i4, i5⟩ := digs_dec v.toNat
          apply hc
          rw [e2]
          exact ⟨canon_dec _, by rw [i2]; omega⟩

end Go.Proofs.YtlohfcinffaagaaDoor
