/- The statement OpChecks. -/
import Derived.Test.YtlohfcinffaagaaDoorOpLu0
import Derived.Test.YtlohfcinffaagaaDoorQOp5
namespace Go.Proofs.YtlohfcinffaagaaDoor
open Go.RowKit Go.Proofs.YtlohfcinffaagaaDoorW.PrintWords Go.Proofs.YtlohfcinffaagaaDoorQ.Op
set_option linter.unusedVariables false
set_option linter.unusedSimpArgs false

theorem bt_at2 (s : ByteArray) (i : Nat) (h : i < s.size) : bt s (i : Int) = s[i].toNat := by simp [bt, h]
theorem one_loop (s : ByteArray) (hs : s.size ≤ 8) : ∀ (d k i : Nat), s.size - i = d → i ≤ s.size → d + 1 ≤ k → lapidaryref03_One.l0 k s (i : Int) = some ((s.data.toList.drop i).all letterOk)
  | 0, k, i, hd, hi, hk => by
    obtain ⟨k, rfl⟩ : ∃ m, k = m + 1 := ⟨k - 1, by omega⟩
    simp only [lapidaryref03_One.l0]
    rw [if_neg (by omega), List.drop_of_length_le (by rw [Array.length_toList]; show s.size ≤ i; omega)]
    rfl
  | d + 1, k, i, hd, hi, hk => by
    obtain ⟨k, rfl⟩ : ∃ m, k = m + 1 := ⟨k - 1, by omega⟩
    have hlt : i < s.size := by omega
    have ih := one_loop s hs d k (i + 1) (by omega) (by omega) (by omega)
    have hdr : s.data.toList.drop i = s[i] :: s.data.toList.drop (i + 1) := by
      rw [List.drop_eq_getElem_cons (by rw [Array.length_toList]; exact hlt)]
      rfl
    simp only [lapidaryref03_One.l0]
    rw [if_pos (by omega), if_pos (by omega), bt_at2 s i hlt, wr1 hlt (by omega), ih, hdr, List.all_cons]
    by_cases h1 : s[i].toNat = 112
    · have e : letterOk s[i] = true := by unfold letterOk; rw [show s[i] = 112 from UInt8.toNat_inj.1 h1]; rfl
      rw [if_pos (by omega), e]; rfl
    · rw [if_neg (by omega)]
      by_cases h2 : s[i].toNat = 115
      · have e : letterOk s[i] = true := by unfold letterOk; rw [show s[i] = 115 from UInt8.toNat_inj.1 h2]; rfl
        rw [if_pos (by omega), e]; rfl
      · have e : letterOk s[i] = false := by
          unfold letterOk
          rw [Bool.or_eq_false_iff]
          constructor
          · rw [beq_eq_false_iff_ne]; intro e; rw [e] at h1; exact h1 rfl
          · rw [beq_eq_false_iff_ne]; intro e; rw [e] at h2; exact h2 rfl
        rw [if_neg (by omega), e]; rfl
theorem one_f (s : ByteArray) (k : Nat) (hk : 10 ≤ k) : lapidaryref03_One.f k s = some (shapeB s) := by
  unfold lapidaryref03_One.f shapeB lettersOk
  by_cases h : s.size ≤ 8
  · rw [if_neg (by omega), decide_eq_true h, Bool.and_true]
    exact one_loop s h s.size k 0 (by omega) (by omega) (by omega)
  · rw [if_pos (by omega), decide_eq_false h, Bool.and_false]
theorem rdB (l : List ByteArray) (j : Nat) (h : j < l.length) : rdOf ByteArray.empty l (j : Int) = l[j] := by
  unfold rdOf
  rw [Int.toNat_natCast, List.getD_eq_getElem?_getD, List.getElem?_eq_getElem h]
  rfl
theorem right_loop (l : List ByteArray) (hl : l.length ≤ 16) : ∀ (d k i : Nat), l.length - i = d → i ≤ l.length → d + 11 ≤ k → lapidaryref03_Right.l0 k l (i : Int) = some ((l.drop i).all shapeB)
  | 0, k, i, hd, hi, hk => by
    obtain ⟨k, rfl⟩ : ∃ m, k = m + 1 := ⟨k - 1, by omega⟩
    simp only [lapidaryref03_Right.l0]
    rw [if_neg (by omega), List.drop_of_length_le (by omega)]
    rfl
  | d + 1, k, i, hd, hi, hk => by
    obtain ⟨k, rfl⟩ : ∃ m, k = m + 1 := ⟨k - 1, by omega⟩
    have hlt : i < l.length := by omega
    have ih := right_loop l hl d k (i + 1) (by omega) (by omega) (by omega)
    simp only [lapidaryref03_Right.l0]
    rw [if_pos (by omega), if_pos (by omega), rdB l i hlt, one_f _ k (by omega), wr1 hlt (by omega), ih, List.drop_eq_getElem_cons hlt, List.all_cons]
    simp only [Option.bind_some]
    cases shapeB l[i] with
    | true => rw [if_pos (by trivial)]; rfl
    | false => rw [if_neg Bool.false_ne_true]; rfl
theorem right_f (l : List ByteArray) (k : Nat) (hk : 40 ≤ k) : lapidaryref03_Right.f k l = some (tableB l) := by
  obtain ⟨k, rfl⟩ : ∃ m, k = m + 1 := ⟨k - 1, by omega⟩
  unfold lapidaryref03_Right.f tableB
  by_cases h1 : l.length < 1
  · rw [if_pos (by omega), decide_eq_false (by omega)]
    simp only [lapidaryref03_Right.j0]
    rw [if_pos (by trivial)]
    rfl
  · rw [if_neg (by omega), decide_eq_true (show 1 ≤ l.length by omega), Bool.true_and]
    simp only [lapidaryref03_Right.j0]
    by_cases h2 : l.length ≤ 16
    · rw [decide_eq_false (by omega), decide_eq_true h2, if_neg Bool.false_ne_true, Bool.true_and]
      exact right_loop l h2 l.length k 0 (by omega) (by omega) (by omega)
    · rw [decide_eq_true (show (l.length : Int) > 16 by omega), decide_eq_false h2, if_pos (by trivial)]
      rfl
theorem size_f (l : List ByteArray) (i : Int) (k : Nat) (hk : 40 ≤ k) : ∃ n, lapidaryref03_Size.f k l i = some (n, ofE l i) := by
  unfold lapidaryref03_Size.f
  rw [right_f l k hk]
  simp only [Option.bind_some]
  rcases ofE_cases l i with ⟨h1, h2⟩ | ⟨h1, h2, h3⟩ | ⟨h1, h2, h3, h4⟩ | ⟨h1, h2, h3, h4⟩
  · rw [h1, if_neg Bool.false_ne_true, h2]; exact ⟨_, rfl⟩
  · rw [h1, if_pos (by trivial), if_pos h2, h3]; exact ⟨_, rfl⟩
  · rw [h1, if_pos (by trivial), if_neg (by omega), if_pos (by omega), h4]; exact ⟨_, rfl⟩
  · rw [h1, if_pos (by trivial), if_neg (by omega), if_neg (by omega), if_pos (by omega), if_pos (by omega), h4]; exact ⟨_, rfl⟩
theorem getQ_f (o : OpN) (n : Nat) (hn : n ≤ 6) : lapidaryref08_get.f o.k o.a o.b o.c o.f o.s o.x o.y ((letterN n).toNat : Int) = some (o.get n) := by
  obtain rfl | rfl | rfl | rfl | rfl | rfl | rfl : n = 0 ∨ n = 1 ∨ n = 2 ∨ n = 3 ∨ n = 4 ∨ n = 5 ∨ n = 6 := by omega
  all_goals rfl
theorem names_bt2 (k : Int) (j : Nat) (h : j < (opNames k).length) : bt (namesB k) (j : Int) = ((letterN (opNames k)[j]).toNat : Int) := by
  have hs := names_size k
  rw [bt_at2 _ j (by omega), names_at k j h]
theorem slot_unnamed (o : OpN) (hb : bareB o = true) (h : ∀ n ∈ opNames o.k, n ≤ 2 → 0 ≤ o.get n ∧ o.get n < 6) : slotB o = true := by
  refine slots_all fun n _ hn => ?_
  by_cases hc : (opNames o.k).contains n = true
  · exact h n (by simpa using hc) hn
  · by_cases h0 : o.get n = 0
    · omega
    · have := nonzero_bare o n (by omega) (Bool.eq_false_iff.2 hc) h0
      rw [this] at hb; cases hb
theorem check_loop (l : List ByteArray) (o : OpN) (hT : tableB l = true) (hb : bareB o = true) : ∀ (d k j : Nat), (opNames o.k).length - j = d → j ≤ (opNames o.k).length → (∀ i (hi : i < (opNames o.k).length), i < j → (opNames o.k)[i] ≤ 2 → 0 ≤ o.get (opNames o.k)[i] ∧ o.get (opNames o.k)[i] < 6) → d + 41 ≤ k →
    lapidaryref08_Check.l0 k l (namesB o.k) (j : Int) o.k o.a o.b o.c o.f o.s o.x o.y = some (checkO l o)
  | 0, k, j, hd, hj, hok, hk => by
    obtain ⟨k, rfl⟩ : ∃ m, k = m + 1 := ⟨k - 1, by omega⟩
    have hs := names_size o.k
    have hsl : slotB o = true := slot_unnamed o hb fun n hn h2 => by
      obtain ⟨i, hi, rfl⟩ := List.mem_iff_getElem.1 hn
      exact hok i hi (by omega) h2
    have hck : checkO l o = if o.k = 1 then ofE l o.s else if scalB o = false then 182 else 0 := by
      unfold checkO
      rw [if_neg (by rw [hT]; decide +kernel), if_neg (by rw [hb]; decide +kernel), if_neg (by rw [hsl]; decide +kernel)]
    rw [hck]
    simp only [lapidaryref08_Check.l0]
    rw [if_neg (by omega)]
    by_cases h1 : o.k = 1
    · obtain ⟨n, hn⟩ := size_f l o.s k (by omega)
      rw [if_pos h1, if_pos h1, hn]
      rfl
    · rw [if_neg h1, if_neg h1]
      by_cases c1 : o.x < -576460752303423488
      · rw [if_pos c1, if_pos (scal_bad (.inl c1))]
      · by_cases c2 : o.x > 576460752303423487
        · rw [if_neg c1, if_pos c2, if_pos (scal_bad (.inr (.inl c2)))]
        · by_cases c3 : o.y < -576460752303423488
          · rw [if_neg c1, if_neg c2, if_pos c3, if_pos (scal_bad (.inr (.inr (.inl c3))))]
          · by_cases c4 : o.y > 576460752303423487
            · rw [if_neg c1, if_neg c2, if_neg c3, if_pos c4, if_pos (scal_bad (.inr (.inr (.inr c4))))]
            · rw [if_neg c1, if_neg c2, if_neg c3, if_neg c4, if_neg (by rw [scal_ok ⟨by omega, by omega⟩ ⟨by omega, by omega⟩]; decide +kernel)]
  | d + 1, k, j, hd, hj, hok, hk => by
    obtain ⟨k, rfl⟩ : ∃ m, k = m + 1 := ⟨k - 1, by omega⟩
    have hs := names_size o.k
    have hnl := names_len o.k
    have hlt : j < (opNames o.k).length := by omega
    have hn6 : (opNames o.k)[j] ≤ 6 := names_le o.k _ (List.getElem_mem hlt)
    have ih := fun hok' => check_loop l o hT hb d k (j + 1) (by omega) (by omega) hok' (by omega)
    have hbad : (opNames o.k)[j] ≤ 2 → (o.get (opNames o.k)[j] < 0 ∨ 6 ≤ o.get (opNames o.k)[j]) → checkO l o = 181 := fun h2 h => by
      unfold checkO
      rw [if_neg (by rw [hT]; decide +kernel), if_neg (by rw [hb]; decide +kernel), if_pos (slots_bad _ h2 h)]
    simp only [lapidaryref08_Check.l0]
    rw [if_pos (by omega), if_pos (by omega), names_bt2 o.k j hlt, getQ_f o _ hn6, wr1 hlt (by omega)]
    simp only [Option.bind_some]
    have step : ((opNames o.k)[j] ≤ 2 → 0 ≤ o.get (opNames o.k)[j] ∧ o.get (opNames o.k)[j] < 6) → ∀ i (hi : i < (opNames o.k).length), i < j + 1 → (opNames o.k)[i] ≤ 2 → 0 ≤ o.get (opNames o.k)[i] ∧ o.get (opNames o.k)[i] < 6 := fun h i hi hlt2 h2 => by
      by_cases e : i = j
      · subst e; exact h h2
      · exact hok i hi (by omega) h2
    generalize hn : (opNames o.k)[j] = n at *
    have body : n ≤ 2 → (if o.get n < 0 then some 181 else if o.get n > 5 then some 181 else lapidaryref08_Check.l0 k l (namesB o.k) ((j + 1 : Nat) : Int) o.k o.a o.b o.c o.f o.s o.x o.y) = some (checkO l o) := fun h2 => by
      by_cases c1 : o.get n < 0
      · rw [if_pos c1, hbad h2 (.inl c1)]
      · by_cases c2 : o.get n > 5
        · rw [if_neg c1, if_pos c2, hbad h2 (.inr (by omega))]
        · rw [if_neg c1, if_neg c2]
          exact ih (step fun _ => ⟨by omega, by omega⟩)
    by_cases h0 : n = 0
    · rw [if_pos (by rw [h0]; rfl)]
      exact body (by omega)
    · by_cases h1 : n = 1
      · rw [if_neg (by rw [h1]; decide +kernel), if_pos (by rw [h1]; rfl)]
        exact body (by omega)
      · by_cases h2 : n = 2
        · rw [if_neg (by rw [h2]; decide +kernel), if_neg (by rw [h2]; decide +kernel), if_pos (by rw [h2]; rfl)]
          exact body (by omega)
        · have hl : ∀ c : Int, c = 65 ∨ c = 66 ∨ c = 67 → ¬ ((letterN n).toNat : Int) = c := by
            intro c hc
            obtain rfl | rfl | rfl | rfl : n = 3 ∨ n = 4 ∨ n = 5 ∨ n = 6 := by omega
            all_goals
              have : ∀ x, x = 65 ∨ x = 66 ∨ x = 67 → ¬ x = c ∨ True := fun _ _ => .inr trivial
              rcases hc with rfl | rfl | rfl <;> decide +kernel
          rw [if_neg (hl 65 (.inl rfl)), if_neg (hl 66 (.inr (.inl rfl))), if_neg (hl 67 (.inr (.inr rfl)))]
          exact ih (step fun h => by omega)
theorem refCheck_f (l : List ByteArray) (o : OpN) (k : Nat) (hk : 50 ≤ k) : lapidaryref08_Check.f k l o.k o.a o.b o.c o.f o.s o.x o.y = some (checkO l o) := by
  unfold lapidaryref08_Check.f
  rw [right_f l k (by omega), bare_f o]
  simp only [Option.bind_some, lapidaryref08_Names.f]
  have hnl := names_len o.k
  cases hT : tableB l with
  | false =>
    rw [if_neg Bool.false_ne_true]
    unfold checkO
    rw [if_pos hT]
  | true =>
    rw [if_pos (by trivial)]
    cases hb : bareB o with
    | false =>
      rw [if_neg Bool.false_ne_true]
      unfold checkO
      rw [if_neg (by rw [hT]; decide +kernel), if_pos hb]
    | true =>
      rw [if_pos (by trivial)]
      exact check_loop l o hT hb (opNames o.k).length k 0 (by omega) (by omega) (fun i _ h => by omega) (by omega)
theorem refField_f (o : OpN) : ∃ t, lapidaryref08_Field.f o.k o.a o.b o.c o.f o.s o.x o.y = some t ∧ (fieldB o.k != decide (t ≥ 0)) = false ∧ fieldK o.k = mx 0 t := by
  unfold lapidaryref08_Field.f
  by_cases h : 2 ≤ o.k ∧ o.k ≤ 7
  · rw [if_neg (by omega), if_neg (by omega)]
    refine ⟨_, rfl, ?_⟩
    have hk : o.k = 2 ∨ o.k = 3 ∨ o.k = 4 ∨ o.k = 5 ∨ o.k = 6 ∨ o.k = 7 := by omega
    rcases hk with e | e | e | e | e | e <;> rw [e] <;> decide +kernel
  · have e1 : fieldK o.k = 0 := by unfold fieldK; rw [if_neg (by omega)]
    have e2 : fieldB o.k = false := by unfold fieldB; simpa using h
    refine ⟨-1, ?_, ?_, ?_⟩
    · by_cases h2 : o.k < 2
      · rw [if_pos h2]
      · rw [if_neg h2, if_pos (by omega)]
    · rw [e2]; decide +kernel
    · rw [e1]; decide +kernel
theorem checks_l1 (l : List ByteArray) (xs : List S35) (hx : xs.length ≤ 60) : ∀ (d k j : Nat), xs.length - j = d → j ≤ xs.length → d + 60 ≤ k → lapidarylaw08_OpChecks.l1 k l xs (j : Int) = some true
  | 0, k, j, hd, hj, hk => by
    obtain ⟨k, rfl⟩ : ∃ m, k = m + 1 := ⟨k - 1, by omega⟩
    simp only [lapidarylaw08_OpChecks.l1]
    rw [if_neg (by omega), works_f]
    rfl
  | d + 1, k, j, hd, hj, hk => by
    obtain ⟨k, rfl⟩ : ∃ m, k = m + 1 := ⟨k - 1, by omega⟩
    have hlt : j < xs.length := by omega
    have ih := checks_l1 l xs hx d k (j + 1) (by omega) (by omega) (by omega)
    obtain ⟨t, h1, h2, h3⟩ := refField_f (opS xs[j])
    have h4 := refCheck_f l (opS xs[j]) k (by omega)
    have h5 : op_Check.f l xs[j].f0 xs[j].f1 xs[j].f2 xs[j].f3 xs[j].f4 xs[j].f5 xs[j].f6 xs[j].f7 = some (checkO l (opS xs[j])) := rfl
    simp only [opS] at h1 h2 h3 h4
    simp only [lapidarylaw08_OpChecks.l1]
    rw [if_pos (by omega), if_pos (by omega), rd35 xs j hlt, h1, h4, h5]
    simp only [Option.bind_some, lapidarylaw08_num.f, op_Field.f, opS]
    rw [if_pos (by trivial), if_neg (by rw [h2]; decide +kernel), if_pos h3, wr1 hlt (by omega)]
    exact ih
theorem checks_l0 (l : List ByteArray) (hl : l.length ≤ 20) (xs : List S35) (hx : xs.length ≤ 60) : ∀ (d k j : Nat), l.length - j = d → j ≤ l.length → d + 130 ≤ k → lapidarylaw08_OpChecks.l0 k l xs (j : Int) = some true
  | 0, k, j, hd, hj, hk => by
    obtain ⟨k, rfl⟩ : ∃ m, k = m + 1 := ⟨k - 1, by omega⟩
    simp only [lapidarylaw08_OpChecks.l0]
    rw [if_neg (by omega)]
    exact checks_l1 l xs hx xs.length k 0 (by omega) (by omega) (by omega)
  | d + 1, k, j, hd, hj, hk => by
    obtain ⟨k, rfl⟩ : ∃ m, k = m + 1 := ⟨k - 1, by omega⟩
    have hlt : j < l.length := by omega
    have ih := checks_l0 l hl xs hx d k (j + 1) (by omega) (by omega) (by omega)
    simp only [lapidarylaw08_OpChecks.l0]
    rw [if_pos (by omega), if_pos (by omega), wr1 hlt (by omega), works_f, ih]
    simp
theorem opChecks_pure (l : List ByteArray) (xs : List S35) : lapidarylaw08_OpChecks.f 200 l xs = some true := by
  unfold lapidarylaw08_OpChecks.f
  by_cases h1 : l.length > 20
  · rw [if_pos (by omega)]
    simp only [lapidarylaw08_OpChecks.j0]
    rw [if_pos (by trivial), works_f]
    rfl
  · rw [if_neg (by omega)]
    simp only [lapidarylaw08_OpChecks.j0]
    by_cases h2 : xs.length > 60
    · rw [decide_eq_true (show (xs.length : Int) > 60 by omega), if_pos (by trivial), works_f]
      rfl
    · rw [decide_eq_false (by omega), if_neg Bool.false_ne_true]
      exact checks_l0 l (by omega) xs (by omega) l.length 199 0 (by omega) (by omega) (by omega)
theorem kd_str {w : World} {a : Option Addr} {ss : List ByteArray} (hl : ss.length ≤ maxLen) (hs : SlOf w a (ss.map .string)) : Kd.C Kd.string w a ss.length ss := by
  refine ⟨rfl, hl, fun hn => ?_⟩
  rcases hs with h0 | ⟨b, o, rfl, _, hc⟩
  · have := congrArg List.length h0; rw [List.length_map, List.length_nil] at this; omega
  · refine ⟨_, rfl, fun j p hp => ⟨[.string p], rfl, rfl, fun i u hu => ?_⟩⟩
    have hj : j < ss.length := (List.getElem?_eq_some_iff.1 hp).1
    have hi : i = 0 := by
      rcases Nat.eq_zero_or_pos i with h | h
      · exact h
      · rw [List.getElem?_eq_none (by simp; omega)] at hu; cases hu
    subst hi
    simp only [List.getElem?_cons_zero, Option.some.injEq] at hu
    subst hu
    have := hc j (by simpa using hj)
    have e : j * Kd.string.sz + 0 = j := by show j * 1 + 0 = j; omega
    rw [e, show (⟨b, o, none⟩ : Addr).add j = ⟨b, o + j, none⟩ by unfold Addr.add; split <;> simp_all, this]
    rw [List.getElem_map, (List.getElem?_eq_some_iff.1 hp).2]
theorem opChecks_walk (w : World) (a : Option Addr) (c : Nat) (ss : List ByteArray) (hl : ss.length ≤ maxLen ∧ ss.length ≤ c) (hs : SlOf w a (ss.map .string)) (_ : ∀ s ∈ ss, s.size ≤ maxLen)
    (a' : Option Addr) (c' : Nat) (zs : List S35) (hl' : zs.length ≤ maxLen ∧ zs.length ≤ c') (hs' : Kd.C k35 w a' zs.length zs) (_ : ∀ z ∈ zs, fitS z) (hT : WOk w) :
    Calls Tryd.prog 4 #[.slice a ss.length c, .slice a' zs.length c'] w fun e w' => e = .returned (.bool true) ∧ Below w.heap.size w w' :=
  lapidarylaw08_OpChecks.calls 200 a c ss a' c' zs true w (kd_str hl.1 hs) hl.2 hs' hl'.2 (opChecks_pure ss zs) hT

end Go.Proofs.YtlohfcinffaagaaDoor
