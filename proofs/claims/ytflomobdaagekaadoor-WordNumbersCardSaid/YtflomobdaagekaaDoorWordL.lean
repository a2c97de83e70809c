/- The plain laws of layer 01: no program in sight. -/
import Derived.Test.YtflomobdaagekaaDoorQWordB
import Derived.Test.YtflomobdaagekaaDoorLiftKit
import Derived.Stop.LaidErr
import Derived.LaidLaws
namespace Go.Proofs.YtflomobdaagekaaDoor
open Go.RowKit Go.Proofs.YtflomobdaagekaaDoorW.PrintWords Go.Proofs.YtflomobdaagekaaDoorQ.WordB
set_option linter.unusedVariables false
set_option linter.unusedSimpArgs false

theorem numS_two : numS 2 = ⟨#[50]⟩ := by
  have h : Lib.itoa 2 = [50] := by
    have := decDigits_last 2 [] (by omega)
    rw [List.append_nil] at this
    unfold Lib.itoa
    rw [if_neg (by decide)]
    exact this
  unfold numS
  rw [h]
theorem textW_17 : (textW 17).toList = [33, 64, 50] := by
  have k : wdK 17 = 2 := by decide
  have s : wdS 17 = true := by decide
  have v : wdV 17 = 2 := by decide
  unfold textW textG textB
  rw [k, s, v, numS_two]
  rw [ByteArray.toList_eq]
  rfl
theorem law01_works : lapidarylaw01_works.f = some true := by
  have r1 : readW ⟨#[33, 64, 50]⟩ = 17 := by decide +kernel
  have r2 : readE ⟨#[33, 64, 50]⟩ = 0 := by decide +kernel
  have r3 : readE ⟨#[64, 48]⟩ = 4 := by decide +kernel
  have r4 : readE ⟨#[48, 49]⟩ = 2 := by decide +kernel
  have m1 : mkW 2 false 2 = 16 := by decide
  have m2 : mkE 2 false 2 = 0 := by decide
  have m3 : mkW 3 false 0 = 4611686018427387908 := by decide
  have m4 : mkE 3 false 0 = 0 := by decide
  have k : wdK 17 = 2 := by decide
  have s : wdS 17 = true := by decide
  have v : wdV 17 = 2 := by decide
  have t := textW_17
  have z1 : (⟨#[33, 64, 50]⟩ : ByteArray).size = 3 := rfl
  have z2 : (⟨#[64, 48]⟩ : ByteArray).size = 2 := rfl
  have z3 : (⟨#[48, 49]⟩ : ByteArray).size = 2 := rfl
  simp [lapidarylaw01_works.f, word_Pointer.f, word_Scalar.f, word_Make.f, word_Read.f, word_Of.f, word_Text.f, word_Empty.f, lapidarylaw01_num.f, r1, r2, r3, r4, m1, m2, m3, m4, k, s, v, t, z1, z2, z3, wrap64]

theorem of_u64 {x : Int} (h : (Lit.int .u64 x).wf = true) : word_Of.f x = some (wdK x, wdS x, wdV x) ∧ lapidaryref01_Of.f x = some (wdK x, wdS x, wdV x) := by
  obtain ⟨h0, h1⟩ := wf_u64 h
  exact ⟨by unfold word_Of.f; rw [if_pos h0, if_pos h1], by unfold lapidaryref01_Of.f; rw [if_pos h0, if_pos h1]⟩
theorem mk_of {x : Int} (h0 : 0 ≤ x) (h1 : x < 18446744073709551616) (hk : wdK x ≠ 0) : mkW (wdK x) (wdS x) (wdV x) = x ∧ mkE (wdK x) (wdS x) (wdV x) = 0 := by
  have hS := wdS_eq x
  rcases wdK_cases x with k | k | k | k | k
  · exact absurd k hk
  · have v := wdV_else (x := x) (by rw [k]; decide) (by rw [k]; decide)
    have hx : x - x % 2 = 0 := by
      unfold wdK at k
      split at k
      · cases k
      · split at k
        · rename_i h; exact h
        · split at k
          · cases k
          · split at k <;> cases k
    rw [k] at hS
    rw [k, v, hS]
    by_cases hs : x % 2 = 1
    · have : x = 1 := by omega
      subst this; decide
    · have : x = 0 := by omega
      subst this; decide
  · have b := wdK_two k h0
    have v := wdV_two k h0
    have e : mkE 2 (wdS x) (x / 8) = 0 := by unfold mkE; rw [if_neg (by simp), if_pos rfl, if_pos ⟨b.1, b.2.1⟩]
    rw [k] at hS
    rw [k, v]
    refine ⟨?_, e⟩
    unfold mkW
    rw [e, if_pos rfl, hS]
    have hb : mkB 2 (x / 8) = 8 * (x / 8) := by simp [mkB]
    rw [hb]
    unfold wEven at b
    by_cases hs : x % 2 = 1
    · simp [hs]; omega
    · simp [hs]; omega
  · have b := wdK_three k h0
    have v := wdV_three k h0
    have e : mkE 3 (wdS x) (x / 8 - 576460752303423488) = 0 := by unfold mkE; rw [if_neg (by simp), if_neg (by decide), if_pos rfl, if_pos (by omega)]
    rw [k] at hS
    rw [k, v]
    refine ⟨?_, e⟩
    unfold mkW
    rw [e, if_pos rfl, hS]
    have hb : mkB 3 (x / 8 - 576460752303423488) = 8 * (x / 8) + 4 := by simp [mkB]
    rw [hb]
    unfold wEven at b
    by_cases hs : x % 2 = 1
    · simp [hs]; omega
    · simp [hs]; omega
  · have v := wdV_else (x := x) (by rw [k]; decide) (by rw [k]; decide)
    have hx : x = 2 := by
      unfold wdK at k
      split at k
      · assumption
      · split at k
        · cases k
        · split at k
          · cases k
          · split at k <;> cases k
    subst hx
    decide
theorem rd_get (l : List Int) (i : Nat) (h : i < l.length) : rd l (i : Int) = l[i] := by simp [rd, List.getD_eq_getElem?_getD, List.getElem?_eq_getElem h]

theorem wordOf_law (l : List Int) (hl : l.length ≤ 60) (hw : ∀ x ∈ l, (Lit.int .u64 x).wf = true) : ∀ (d k i : Nat), l.length - i = d → i ≤ l.length → d + 1 ≤ k → lapidarylaw01_WordOf.l0 k l (i : Int) = some true := by
  intro d
  induction d with
  | zero =>
    intro k i hd hi hk
    obtain ⟨k, rfl⟩ : ∃ m, k = m + 1 := ⟨k - 1, by omega⟩
    simp only [lapidarylaw01_WordOf.l0]
    rw [if_neg (by omega), law01_works]
    rfl
  | succ d ih =>
    intro k i hd hi hk
    obtain ⟨k, rfl⟩ : ∃ m, k = m + 1 := ⟨k - 1, by omega⟩
    have hlt : i < l.length := by omega
    have hx := hw l[i] (List.getElem_mem hlt)
    obtain ⟨h0, h1⟩ := wf_u64 hx
    obtain ⟨o1, o2⟩ := of_u64 hx
    have hwi : wrap64 ((i : Int) + 1) = (i : Int) + 1 := w64 (by omega) (by omega)
    simp only [lapidarylaw01_WordOf.l0]
    rw [if_pos (by omega), if_pos (by omega), rd_get l i hlt, o1, o2, hwi]
    have hih : lapidarylaw01_WordOf.l0 k l ((i : Int) + 1) = some true := ih k (i + 1) (by omega) (by omega) (by omega)
    by_cases hk0 : wdK l[i] = 0
    · have e1 : ∀ S V, mkE 0 S V = 2 := fun S V => by unfold mkE; rw [if_pos (.inl (by decide))]
      have e2 : ∀ S V, mkW 0 S V = 0 := fun S V => by unfold mkW; rw [e1]; rfl
      simp [word_Make.f, lapidarylaw01_num.f, hk0, e1, e2, hih]
    · obtain ⟨m1, m2⟩ := mk_of h0 h1 hk0
      simp [word_Make.f, lapidarylaw01_num.f, hk0, m1, m2, hih]

theorem wordOf_pure (l : List Int) (hw : ∀ x ∈ l, (Lit.int .u64 x).wf = true) : ∃ k, lapidarylaw01_WordOf.f k l = some true := by
  by_cases hl : (l.length : Int) > 60
  · exact ⟨0, by unfold lapidarylaw01_WordOf.f; rw [if_pos hl, law01_works]; rfl⟩
  · exact ⟨l.length + 1, by unfold lapidarylaw01_WordOf.f; rw [if_neg hl]; exact wordOf_law l (by omega) hw l.length (l.length + 1) 0 (by omega) (by omega) (by omega)⟩
theorem wordMake_pure (K : Int) (S : Bool) (V : Int) : lapidarylaw01_WordMake.f K S V = some true := by
  simp [lapidarylaw01_WordMake.f, word_Make.f, lapidaryref01_Make.f, lapidarylaw01_num.f, law01_works]
theorem wordNumbers_pure (n : Int) : lapidarylaw01_WordNumbers.f n = some true := by
  simp [lapidarylaw01_WordNumbers.f, word_Pointer.f, word_Scalar.f, lapidaryref01_Pointer.f, lapidaryref01_Scalar.f, word_Make.f, lapidaryref01_Make.f, lapidarylaw01_num.f, law01_works]
theorem wordReads_pure (s : ByteArray) (_hs : s.size ≤ maxLen) : lapidarylaw01_WordReads.f s = some true := by
  unfold lapidarylaw01_WordReads.f
  by_cases h : (s.size : Int) > 300
  · rw [if_pos h, law01_works]; rfl
  · rw [if_neg h]
    have h2 : s.size ≤ 140737488351232 := by omega
    simp [word_Read.f, lapidaryref01_Read.f, lapidarylaw01_num.f, law01_works, h2]

end Go.Proofs.YtflomobdaagekaaDoor

namespace Go.Proofs.YtflomobdaagekaaDoor
open Go.RowKit Go.Proofs.YtflomobdaagekaaDoorW.PrintWords Go.Proofs.YtflomobdaagekaaDoorQ.WordB
set_option linter.unusedVariables false
set_option linter.unusedSimpArgs false

theorem decA_snoc (l : List UInt8) : ∀ (acc : Nat) (c : UInt8), decA acc (l ++ [c]) = decA acc l * 10 + (c.toNat - 48) := by
  induction l with
  | nil => intro acc c; rfl
  | cons x r ih => intro acc c; exact ih _ c
theorem decDigits_ten (u : Nat) (h : ¬ u < 10) : Lib.decDigits u = Lib.decDigits (u / 10) ++ [UInt8.ofNat (48 + u % 10)] := by
  have := decDigits_step u [] h
  simpa using this
theorem decDigits_one (u : Nat) (h : u < 10) : Lib.decDigits u = [UInt8.ofNat (48 + u % 10)] := by
  have := decDigits_last u [] h
  simpa using this
theorem digit_at (n : Nat) (h : n < 10) : (UInt8.ofNat (48 + n)).toNat = 48 + n := by
  rw [UInt8.toNat_ofNat']; omega
theorem digs_dec (u : Nat) : (Lib.decDigits u).all digOk = true ∧ decA 0 (Lib.decDigits u) = u ∧ Lib.decDigits u ≠ [] ∧ (u = 0 → Lib.decDigits u = [48]) ∧ (u ≠ 0 → (Lib.decDigits u).head? ≠ some 48) := by
  induction u using Nat.strongRecOn with
  | ind u ih =>
    by_cases h : u < 10
    · rw [decDigits_one u h]
      have hm : u % 10 = u := by omega
      have hd := digit_at u h
      rw [hm]
      refine ⟨by simp [digOk, hd]; omega, ?_, by simp, ?_, ?_⟩
      · show 0 * 10 + ((UInt8.ofNat (48 + u)).toNat - 48) = u
        rw [hd]; omega
      · intro e; subst e; rfl
      · intro e h48
        have : UInt8.ofNat (48 + u) = 48 := by simpa using h48
        have h2 := congrArg UInt8.toNat this
        rw [hd] at h2
        simp at h2
        exact e h2
    · obtain ⟨i1, i2, i3, _, i5⟩ := ih (u / 10) (by omega)
      have hd := digit_at (u % 10) (by omega)
      rw [decDigits_ten u h]
      refine ⟨?_, ?_, by simp, fun e => by omega, fun _ => ?_⟩
      · rw [List.all_append, i1]; simp [digOk, hd]; omega
      · rw [decA_snoc, i2, hd]; omega
      · cases hq : Lib.decDigits (u / 10) with
        | nil => exact absurd hq i3
        | cons x y => rw [hq] at i5; simpa using i5 (by omega)
theorem dec_len (u : Nat) (h : u < 1000000000000000000) : (Lib.decDigits u).length ≤ 18 := by
  obtain ⟨i1, i2, i3, i4, i5⟩ := digs_dec u
  by_cases h0 : u = 0
  · rw [i4 h0]; simp
  cases hq : Lib.decDigits u with
  | nil => simp
  | cons x y =>
    rw [hq] at i1 i2 i5
    rcases Nat.lt_or_ge y.length 18 with hl | hl
    · simp only [List.length_cons]; omega
    · exfalso
      have hx : 49 ≤ x.toNat := by
        have h48 : 48 ≤ x.toNat ∧ x.toNat ≤ 57 := by rw [List.all_cons, Bool.and_eq_true] at i1; simpa [digOk] using i1.1
        have : x.toNat ≠ 48 := fun e => i5 h0 (by simp only [List.head?_cons, Option.some.injEq]; exact UInt8.toNat_inj.1 e)
        omega
      have := big_digs x y hx hl
      rw [i2] at this
      omega

/-- a number's text -/
theorem num_text (V : Int) (h0 : -576460752303423488 ≤ V) (h1 : V < 576460752303423488) :
    wholeB (numS V) = true ∧ Lib.parseIntB 64 (numS V).data.toList = .ok V ∧ ((numS V).data.toList.head? = some 45 ↔ V < 0) ∧ (numS V).data.toList.head? ≠ some 64 ∧ (numS V).data.toList.head? ≠ some 33 ∧
      (numS V).data.toList.head? ≠ some 110 ∧ (numS V).data.toList.head? ≠ some 101 := by
  obtain ⟨i1, i2, i3, i4, i5⟩ := digs_dec V.natAbs
  have hl : (numS V).data.toList = if V < 0 then 45 :: Lib.decDigits V.natAbs else Lib.decDigits V.natAbs := by
    show (Lib.itoa V).toArray.toList = _
    rw [List.toList_toArray]
    unfold Lib.itoa
    by_cases h : V < 0
    · rw [if_pos h, if_pos h]
    · rw [if_neg h, if_neg h]
      congr 1
      omega
  have hdig : ∀ c, (Lib.decDigits V.natAbs).head? = some c → 48 ≤ c.toNat ∧ c.toNat ≤ 57 := by
    intro c hc
    cases hq : Lib.decDigits V.natAbs with
    | nil => rw [hq] at hc; cases hc
    | cons x y =>
      rw [hq] at hc i1
      simp only [List.head?_cons, Option.some.injEq] at hc
      subst hc
      rw [List.all_cons, Bool.and_eq_true] at i1
      simpa [digOk] using i1.1
  have hno : ∀ (c : UInt8), c.toNat < 48 ∨ 57 < c.toNat → (Lib.decDigits V.natAbs).head? ≠ some c := fun c hc e => by
    have := hdig c e; omega
  have hd : digsOf (numS V) = Lib.decDigits V.natAbs := by
    rw [show digsOf (numS V) = _ from trimP _ _, hl]
    by_cases h : V < 0
    · rw [if_pos h]; simp
    · rw [if_neg h, if_neg (hno 45 (.inl (by decide)))]
  have h45 : (numS V).data.toList.head? = some 45 ↔ V < 0 := by
    rw [hl]
    by_cases h : V < 0
    · rw [if_pos h]; simp [h]
    · rw [if_neg h]
      exact ⟨fun e => absurd e (hno 45 (.inl (by decide))), fun e => absurd e h⟩
  have hw : wholeB (numS V) = true := by
    unfold wholeB
    rw [hd, i1]
    have : (Lib.decDigits V.natAbs).isEmpty = false := by rw [List.isEmpty_eq_false_iff]; exact i3
    rw [this, ByteArray.toList_eq]
    by_cases hz : V.natAbs = 0
    · have : ¬ V < 0 := by omega
      rw [hl, if_neg this, i4 hz]; rfl
    · simp [i5 hz]
  have hother : ∀ (c : UInt8), c ≠ 45 → (c.toNat < 48 ∨ 57 < c.toNat) → (numS V).data.toList.head? ≠ some c := by
    intro c hc hn
    rw [hl]
    by_cases h : V < 0
    · rw [if_pos h]; simp; exact fun e => hc e.symm
    · rw [if_neg h]; exact hno c hn
  refine ⟨hw, ?_, h45, hother 64 (by decide) (.inr (by decide)), hother 33 (by decide) (.inl (by decide)), hother 110 (by decide) (.inr (by decide)), hother 101 (by decide) (.inr (by decide))⟩
  have hlen := dec_len V.natAbs (by omega)
  rcases parse_cases hw with ⟨_, hp⟩ | ⟨hbad, _⟩
  · rw [hp, hd, i2]
    by_cases h : V < 0
    · rw [if_pos (h45.2 h)]; congr 1; omega
    · rw [if_neg (fun e => h (h45.1 e))]; congr 1; omega
  · rw [hd] at hbad; omega

theorem cut_plain (s : ByteArray) (h : s.data.toList.head? ≠ some 33) : rS s = false ∧ rs1 s = s := by
  refine ⟨by unfold rS; rw [hasP]; simpa using h, ?_⟩
  have := cut_eq s 33
  rw [if_neg h] at this
  exact this.symm
theorem cut_sealed (s : ByteArray) : rS ((⟨#[33]⟩ : ByteArray) ++ s) = true ∧ rs1 ((⟨#[33]⟩ : ByteArray) ++ s) = s := by
  have hd : ((⟨#[33]⟩ : ByteArray) ++ s).data.toList = 33 :: s.data.toList := by simp [ByteArray.data_append]
  refine ⟨by unfold rS; rw [hasP, hd]; rfl, ?_⟩
  apply bytes_inj'
  show (Lib.trimPrefix ((⟨#[33]⟩ : ByteArray) ++ s).data.toList [33]).toArray.toList = _
  rw [List.toList_toArray, trimP, hd]
  simp
theorem textG_cut (K : Int) (S : Bool) (V : Int) (h : (textB K V).data.toList.head? ≠ some 33) : rS (textG K S V) = S ∧ rs1 (textG K S V) = textB K V := by
  unfold textG
  cases S with
  | true => rw [if_pos rfl]; exact cut_sealed _
  | false => rw [if_neg (by decide)]; exact cut_plain _ h
/-- what is read of a text, told by what stands behind the seal's sign -/
theorem read_of (s : ByteArray) (S : Bool) (t : ByteArray) (h1 : rS s = S) (h2 : rs1 s = t) :
    (t.toList = [110, 117, 108, 108] → readW s = mkW 1 S 0 ∧ readE s = mkE 1 S 0) ∧ (t.toList = [101, 109, 112, 116, 121] → readW s = mkW 4 S 0 ∧ readE s = mkE 4 S 0) := by
  constructor
  · intro h
    unfold readW readE readG
    rw [h2, h1, if_pos h, if_pos h]
    exact ⟨rfl, rfl⟩
  · intro h
    have hn : ¬ t.toList = [110, 117, 108, 108] := by rw [h]; decide
    unfold readW readE readG
    rw [h2, h1, if_neg hn, if_neg hn, if_pos h, if_pos h]
    exact ⟨rfl, rfl⟩
theorem read_num (s : ByteArray) (S P : Bool) (V : Int) (hV0 : -576460752303423488 ≤ V) (hV1 : V < 576460752303423488) (hpos : P = true → 0 ≤ V) (h1 : rS s = S)
    (h2 : rs1 s = if P = true then (⟨#[64]⟩ : ByteArray) ++ numS V else numS V) :
    readW s = mkW (if P = true then 2 else 3) S V ∧ readE s = mkE (if P = true then 2 else 3) S V := by
  obtain ⟨t1, t2, t3, t4, t5, t6, t7⟩ := num_text V hV0 hV1
  have hd : ((⟨#[64]⟩ : ByteArray) ++ numS V).data.toList = 64 :: (numS V).data.toList := by simp [ByteArray.data_append]
  have hP : rP s = P := by
    unfold rP
    rw [hasP, h2]
    cases P with
    | true => rw [if_pos rfl, hd]; rfl
    | false => rw [if_neg (by decide)]; simpa using t4
  have ht : rt s = numS V := by
    have := cut_eq (rs1 s) 64
    cases P with
    | true =>
      apply bytes_inj'
      show (Lib.trimPrefix (rs1 s).data.toList [64]).toArray.toList = _
      rw [List.toList_toArray, trimP, h2, if_pos rfl, hd]
      simp
    | false =>
      rw [if_neg (by decide)] at h2
      rw [h2, if_neg t4] at this
      exact (show rt s = _ by unfold rt; rw [h2]; exact this.symm)
  have hhead : ∀ c, (rs1 s).toList.head? = some c → c = 64 ∨ (numS V).data.toList.head? = some c := by
    intro c hc
    rw [ByteArray.toList_eq, h2] at hc
    cases P with
    | true => rw [if_pos rfl, hd] at hc; simp at hc; exact .inl hc.symm
    | false => rw [if_neg (by decide)] at hc; exact .inr hc
  have n1 : ¬ (rs1 s).toList = [110, 117, 108, 108] := fun e => by
    rcases hhead 110 (by rw [e]; rfl) with h | h
    · exact absurd h (by decide)
    · exact t6 h
  have n2 : ¬ (rs1 s).toList = [101, 109, 112, 116, 121] := fun e => by
    rcases hhead 101 (by rw [e]; rfl) with h | h
    · exact absurd h (by decide)
    · exact t7 h
  have n3 : ¬ (wholeB (rt s) = false ∨ (rP s = true ∧ (rt s).data.toList.head? = some 45)) := by
    rw [ht, t1, hP]
    rintro (h | ⟨h, h'⟩)
    · cases h
    · have := t3.1 h'; have := hpos h; omega
  have hK : rK s = if P = true then 2 else 3 := by unfold rK; rw [hP]
  unfold readW readE readG
  rw [if_neg n1, if_neg n1, if_neg n2, if_neg n2, if_neg n3, if_neg n3, ht, hK, h1]
  unfold numMk
  rw [t2]
  exact ⟨rfl, rfl⟩

/-- a word's text is read as the word -/
theorem read_text {x : Int} (h0 : 0 ≤ x) (h1 : x < 18446744073709551616) :
    (wdK x = 0 → readW (textW x) = 0 ∧ readE (textW x) = 2) ∧ (wdK x ≠ 0 → readW (textW x) = x ∧ readE (textW x) = 0) := by
  have hv := wdV_bound x h0 h1
  have hS := wdS_eq x
  have hnum := num_text (wdV x) hv.1 hv.2
  refine ⟨fun k => ?_, fun hk => ?_⟩
  · have s : wdS x = false := by rw [hS, k]; rfl
    have e : textW x = ⟨#[98, 97, 100]⟩ := by unfold textW textG textB; rw [k, s]; rfl
    rw [e]
    decide +kernel
  · obtain ⟨m1, m2⟩ := mk_of h0 h1 hk
    rcases wdK_cases x with k | k | k | k | k
    · exact absurd k hk
    · have v := wdV_else (x := x) (by rw [k]; decide) (by rw [k]; decide)
      have e : textB (wdK x) (wdV x) = ⟨#[110, 117, 108, 108]⟩ := by unfold textB; rw [if_pos k]
      obtain ⟨c1, c2⟩ := textG_cut (wdK x) (wdS x) (wdV x) (by rw [e]; decide)
      rw [e] at c2
      obtain ⟨a, b⟩ := (read_of (textW x) _ _ c1 c2).1 (by rw [ByteArray.toList_eq])
      rw [k, v] at m1 m2
      exact ⟨a.trans m1, b.trans m2⟩
    · have e : textB (wdK x) (wdV x) = (⟨#[64]⟩ : ByteArray) ++ numS (wdV x) := by unfold textB; rw [if_neg (by rw [k]; decide), if_pos k]
      have hd : ((⟨#[64]⟩ : ByteArray) ++ numS (wdV x)).data.toList = 64 :: (numS (wdV x)).data.toList := by simp [ByteArray.data_append]
      obtain ⟨c1, c2⟩ := textG_cut (wdK x) (wdS x) (wdV x) (by rw [e, hd]; simp)
      have b := wdK_two k h0
      have v := wdV_two k h0
      obtain ⟨p, q⟩ := read_num (textW x) (wdS x) true (wdV x) hv.1 hv.2 (fun _ => by omega) c1 (by rw [if_pos rfl]; exact c2.trans e)
      rw [if_pos rfl] at p q
      rw [k] at m1 m2
      exact ⟨p.trans m1, q.trans m2⟩
    · have e : textB (wdK x) (wdV x) = numS (wdV x) := by unfold textB; rw [if_neg (by rw [k]; decide), if_neg (by rw [k]; decide), if_pos k]
      obtain ⟨c1, c2⟩ := textG_cut (wdK x) (wdS x) (wdV x) (by rw [e]; exact hnum.2.2.2.2.1)
      obtain ⟨p, q⟩ := read_num (textW x) (wdS x) false (wdV x) hv.1 hv.2 (fun h => by cases h) c1 (by rw [if_neg (by decide)]; exact c2.trans e)
      rw [if_neg (by decide)] at p q
      rw [k] at m1 m2
      exact ⟨p.trans m1, q.trans m2⟩
    · have v := wdV_else (x := x) (by rw [k]; decide) (by rw [k]; decide)
      have e : textB (wdK x) (wdV x) = ⟨#[101, 109, 112, 116, 121]⟩ := by unfold textB; rw [if_neg (by rw [k]; decide), if_neg (by rw [k]; decide), if_neg (by rw [k]; decide), if_pos k]
      obtain ⟨c1, c2⟩ := textG_cut (wdK x) (wdS x) (wdV x) (by rw [e]; decide)
      rw [e] at c2
      obtain ⟨a, b⟩ := (read_of (textW x) _ _ c1 c2).2 (by rw [ByteArray.toList_eq])
      rw [k, v] at m1 m2
      exact ⟨a.trans m1, b.trans m2⟩

theorem text_inj {a b : Int} (ha0 : 0 ≤ a) (ha1 : a < 18446744073709551616) (hb0 : 0 ≤ b) (hb1 : b < 18446744073709551616) (ka : wdK a ≠ 0) (kb : wdK b ≠ 0) : textW a = textW b ↔ a = b := by
  constructor
  · intro e
    have h1 := ((read_text ha0 ha1).2 ka).1
    have h2 := ((read_text hb0 hb1).2 kb).1
    rw [e, h2] at h1
    exact h1.symm
  · intro e; rw [e]

theorem wordUnlike_pure (a b : Int) (ha : (Lit.int .u64 a).wf = true) (hb : (Lit.int .u64 b).wf = true) : lapidarylaw01_WordUnlike.f 1 a b = some true := by
  obtain ⟨a0, a1⟩ := wf_u64 ha
  obtain ⟨b0, b1⟩ := wf_u64 hb
  obtain ⟨o1, _⟩ := of_u64 ha
  obtain ⟨o2, _⟩ := of_u64 hb
  unfold lapidarylaw01_WordUnlike.f
  rw [o1, o2]
  simp only [Option.bind_some]
  by_cases ka : wdK a = 0
  · rw [if_pos ka]
    simp [lapidarylaw01_WordUnlike.j0, law01_works]
  rw [if_neg ka]
  by_cases kb : wdK b = 0
  · simp [lapidarylaw01_WordUnlike.j0, law01_works, kb]
  have hof : (a == b) = (wdK a == wdK b && (wdS a == wdS b && (wdV a == wdV b))) := by
    rw [Bool.eq_iff_iff]
    simp only [beq_iff_eq, Bool.and_eq_true]
    constructor
    · intro e; rw [e]; exact ⟨rfl, rfl, rfl⟩
    · rintro ⟨e1, e2, e3⟩
      have m1 := (mk_of a0 a1 ka).1
      have m2 := (mk_of b0 b1 kb).1
      rw [e1, e2, e3, m2] at m1
      exact m1.symm
  have htx : ((textW a).toList == (textW b).toList) = (a == b) := by
    rw [Bool.eq_iff_iff]
    simp only [beq_iff_eq]
    rw [ByteArray.toList_eq, ByteArray.toList_eq]
    constructor
    · intro e; exact (text_inj a0 a1 b0 b1 ka kb).1 (bytes_inj' e)
    · intro e; rw [e]
  have t1 : word_Text.f a = some (textW a) := by unfold word_Text.f; rw [if_pos a0, if_pos a1]
  have t2 : word_Text.f b = some (textW b) := by unfold word_Text.f; rw [if_pos b0, if_pos b1]
  simp only [lapidarylaw01_WordUnlike.j0]
  rw [if_neg (by simpa using kb), if_pos (by rw [hof]; simp), t1, t2]
  simp only [Option.bind_some]
  rw [if_pos (by rw [htx]; simp), law01_works]
  rfl

end Go.Proofs.YtflomobdaagekaaDoor

namespace Go.Proofs.YtflomobdaagekaaDoor
open Go.RowKit Go.Proofs.YtflomobdaagekaaDoorW.PrintWords Go.Proofs.YtflomobdaagekaaDoorQ.WordB
set_option linter.unusedVariables false
set_option linter.unusedSimpArgs false

theorem star_name : "*" ++ "errors.errorString" = "*errors.errorString" := by decide
theorem row_err (u : TypeId) (h : Tryd.prog.typeName? 3 u = some "*errors.errorString") : u = 104 :=
  typeName_ptr_named (nm := "errors.errorString") (by rw [star_name]; kernel_rfl) (by kernel_rfl) (by decide) u (by rw [star_name]; exact h)
theorem rErr_of_laid (W : World) {text : List UInt8} (h : laidMet Tryd.prog [("strconv.ErrRange", .iface "*errors.errorString" (.ptr (.agg [.lit (.string text)])))] W) : RErr W := by
  have hg : Tryd.prog.globalNamed "strconv.ErrRange" = some 2 := by kernel_rfl
  obtain ⟨a, s, hv, _⟩ := laid_sentinel h hg (by kernel_rfl) Tryd.underlying68 row_err Tryd.underlying104 Tryd.underlying106 rfl rfl Tryd.underlying9 (by kernel_rfl) (by kernel_rfl)
  exact ⟨_, by simpa using World.var?_cell hg hv 0, .inr ⟨_, _, rfl⟩⟩

theorem kd_u64 {w : World} {a : Option Addr} {zs : List Int} (hl : zs.length ≤ maxLen) (hs : SlOf w a (zs.map (.int .u64))) : Kd.C (Kd.int .u64) w a zs.length zs := by
  refine Kd.C_of_reads (d := (0 : Int)) (h1 := fun _ => rfl) ⟨rfl, hl, fun hn => ?_⟩
  rcases hs with h0 | ⟨b, o, rfl, _, hc⟩
  · have := congrArg List.length h0; rw [List.length_map, List.length_nil] at this; omega
  · refine ⟨_, rfl, fun j hj => ?_⟩
    have := hc j (by simpa using hj)
    rw [show (⟨b, o, none⟩ : Addr).add j = ⟨b, o + j, none⟩ by unfold Addr.add; split <;> simp_all]
    rw [this]
    simp [List.getD_eq_getElem?_getD, List.getElem?_eq_getElem hj]

theorem wordOf_walk (w : World) (a : Option Addr) (c : Nat) (zs : List Int) (hl : zs.length ≤ maxLen ∧ zs.length ≤ c) (hs : SlOf w a (zs.map (.int .u64))) (hw : ∀ z ∈ zs, (Lit.int .u64 z).wf = true) (hT : WOk w) :
    Calls Tryd.prog 3 #[.slice a zs.length c] w fun e w' => e = .returned (.bool true) ∧ Below w.heap.size w w' := by
  obtain ⟨k, hk⟩ := wordOf_pure zs hw
  exact lapidarylaw01_WordOf.calls k a c zs true w (kd_u64 hl.1 hs) hl.2 hk hT
theorem wordMake_walk (w : World) (K : Int) (_ : (Lit.int .i64 K).wf = true) (S : Bool) (V : Int) (_ : (Lit.int .i64 V).wf = true) (hT : WOk w) :
    Calls Tryd.prog 4 #[.agg #[.int .i64 K, .bool S, .int .i64 V]] w fun e w' => e = .returned (.bool true) ∧ Below w.heap.size w w' :=
  lapidarylaw01_WordMake.calls K S V true w (wordMake_pure K S V) hT
theorem wordNumbers_walk (w : World) (n : Int) (_ : (Lit.int .i64 n).wf = true) (hT : WOk w) :
    Calls Tryd.prog 5 #[.int .i64 n] w fun e w' => e = .returned (.bool true) ∧ Below w.heap.size w w' :=
  lapidarylaw01_WordNumbers.calls n true w (wordNumbers_pure n) hT
theorem wordReads_walk (w : World) (s : ByteArray) (hs : s.size ≤ maxLen) (hT : WOk w) :
    Calls Tryd.prog 7 #[.string s] w fun e w' => e = .returned (.bool true) ∧ Below w.heap.size w w' :=
  lapidarylaw01_WordReads.calls s true w (wordReads_pure s hs) hT
theorem wordUnlike_walk (w : World) (a : Int) (ha : (Lit.int .u64 a).wf = true) (b : Int) (hb : (Lit.int .u64 b).wf = true) (hT : WOk w) :
    Calls Tryd.prog 8 #[.int .u64 a, .int .u64 b] w fun e w' => e = .returned (.bool true) ∧ Below w.heap.size w w' :=
  lapidarylaw01_WordUnlike.calls 1 a b true w (wordUnlike_pure a b ha hb) hT

end Go.Proofs.YtflomobdaagekaaDoor
