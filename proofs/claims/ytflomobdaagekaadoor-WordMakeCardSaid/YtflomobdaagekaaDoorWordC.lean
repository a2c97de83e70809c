/- The reference of layer 'word': what it reads and makes is what the layer reads and makes. -/
import Derived.Test.YtflomobdaagekaaDoorWOk
import Derived.Test.YtflomobdaagekaaDoorQWordA
import Derived.Test.YtflomobdaagekaaDoorWText
namespace Go.Proofs.YtflomobdaagekaaDoor
open Go.RowKit Go.Proofs.YtflomobdaagekaaDoorW.PrintWords Go.Proofs.YtflomobdaagekaaDoorQ.WordA
set_option linter.unusedVariables false
set_option linter.unusedSimpArgs false

def decA : Nat → List UInt8 → Nat
  | acc, [] => acc
  | acc, c :: r => decA (acc * 10 + (c.toNat - 48)) r
theorem pow_step (a n : Nat) : a * 10 ^ (n + 1) = a * 10 * 10 ^ n := by rw [Nat.pow_succ, Nat.mul_comm (10 ^ n) 10, Nat.mul_assoc]
theorem decA_ge (l : List UInt8) : ∀ (acc : Nat), acc * 10 ^ l.length ≤ decA acc l := by
  induction l with
  | nil => intro acc; show acc * 10 ^ 0 ≤ acc; rw [Nat.pow_zero, Nat.mul_one]; exact Nat.le_refl _
  | cons c r ih =>
    intro acc
    have h1 := ih (acc * 10 + (c.toNat - 48))
    have h2 : acc * 10 * 10 ^ r.length ≤ (acc * 10 + (c.toNat - 48)) * 10 ^ r.length := Nat.mul_le_mul_right _ (Nat.le_add_right _ _)
    have h3 := pow_step acc r.length
    have h4 : decA acc (c :: r) = decA (acc * 10 + (c.toNat - 48)) r := rfl
    rw [List.length_cons, h3, h4]
    exact Nat.le_trans h2 h1
theorem decA_le_self (l : List UInt8) (acc : Nat) : acc ≤ decA acc l := by
  have h := decA_ge l acc
  have h1 : 1 ≤ 10 ^ l.length := Nat.pos_of_ne_zero (by simp)
  have h2 : acc * 1 ≤ acc * 10 ^ l.length := Nat.mul_le_mul_left _ h1
  rw [Nat.mul_one] at h2
  exact Nat.le_trans h2 h
theorem decA_lt (l : List UInt8) : ∀ (acc : Nat), l.all digOk = true → decA acc l < (acc + 1) * 10 ^ l.length := by
  induction l with
  | nil => intro acc _; show acc < (acc + 1) * 10 ^ 0; rw [Nat.pow_zero, Nat.mul_one]; omega
  | cons c r ih =>
    intro acc h
    rw [List.all_cons, Bool.and_eq_true] at h
    have hc : 48 ≤ c.toNat ∧ c.toNat ≤ 57 := by simpa [digOk] using h.1
    have h1 := ih (acc * 10 + (c.toNat - 48)) h.2
    have h2 : (acc * 10 + (c.toNat - 48) + 1) * 10 ^ r.length ≤ ((acc + 1) * 10) * 10 ^ r.length := Nat.mul_le_mul_right _ (by omega)
    have h3 := pow_step (acc + 1) r.length
    have h4 : decA acc (c :: r) = decA (acc * 10 + (c.toNat - 48)) r := rfl
    rw [List.length_cons, h3, h4]
    exact Nat.lt_of_lt_of_le h1 h2
theorem parseUintM_small (M L : Nat) (hM : L ≤ M) (hL : L ≤ 1000000000000000000) (l : List UInt8) : ∀ (acc : Nat), l.all digOk = true → decA acc l < L → Lib.parseUintM M acc l = .ok (decA acc l) := by
  induction l with
  | nil => intro acc _ _; rfl
  | cons c r ih =>
    intro acc h hl
    rw [List.all_cons, Bool.and_eq_true] at h
    have hc : 48 ≤ c.toNat ∧ c.toNat ≤ 57 := by simpa [digOk] using h.1
    have h4 : decA acc (c :: r) = decA (acc * 10 + (c.toNat - 48)) r := rfl
    rw [h4] at hl ⊢
    have h1 := decA_le_self r (acc * 10 + (c.toNat - 48))
    unfold Lib.parseUintM
    rw [if_pos hc, if_neg (by omega), if_neg (by omega)]
    exact ih _ h.2 hl
theorem parseUintM_ok (M : Nat) (l : List UInt8) : ∀ (acc u : Nat), Lib.parseUintM M acc l = .ok u → u = decA acc l := by
  induction l with
  | nil => intro acc u h; exact (Lib.NumEnd.ok.inj h).symm
  | cons c r ih =>
    intro acc u h
    have h4 : decA acc (c :: r) = decA (acc * 10 + (c.toNat - 48)) r := rfl
    rw [h4]
    unfold Lib.parseUintM at h
    by_cases h1 : 48 ≤ c.toNat ∧ c.toNat ≤ 57
    · rw [if_pos h1] at h
      by_cases h2 : 1844674407370955162 ≤ acc
      · rw [if_pos h2] at h; cases h
      · rw [if_neg h2] at h
        by_cases h3 : M < acc * 10 + (c.toNat - 48)
        · rw [if_pos h3] at h; cases h
        · rw [if_neg h3] at h
          exact ih _ u h
    · rw [if_neg h1] at h; cases h

theorem big_digs (x : UInt8) (y : List UInt8) (hx : 49 ≤ x.toNat) (hy : 18 ≤ y.length) : 1000000000000000000 ≤ decA 0 (x :: y) := by
  have h4 : decA 0 (x :: y) = decA (0 * 10 + (x.toNat - 48)) y := rfl
  have h5 := decA_ge y (0 * 10 + (x.toNat - 48))
  have h6 : (10 : Nat) ^ 18 ≤ 10 ^ y.length := Nat.pow_le_pow_right (by omega) hy
  have h7 : 1 * 10 ^ y.length ≤ (0 * 10 + (x.toNat - 48)) * 10 ^ y.length := Nat.mul_le_mul_right _ (by omega)
  have h8 : (1000000000000000000 : Nat) = 10 ^ 18 := by rfl
  rw [Nat.one_mul] at h7
  rw [h4, h8]
  exact Nat.le_trans h6 (Nat.le_trans h7 h5)

theorem hasP (l : List UInt8) (c : UInt8) : Lib.hasPrefix l [c] = decide (l.head? = some c) := by
  unfold Lib.hasPrefix
  cases l with
  | nil => simp [List.isPrefixOf]
  | cons x r => simp only [List.isPrefixOf, List.head?_cons, Option.some.injEq, Bool.and_true]; rw [Bool.eq_iff_iff]; simp; exact eq_comm
theorem trimP (l : List UInt8) (c : UInt8) : Lib.trimPrefix l [c] = if l.head? = some c then l.tail else l := by
  unfold Lib.trimPrefix
  rw [hasP]
  by_cases h : l.head? = some c
  · rw [if_pos (by simpa using h), if_pos h]; simp
  · rw [if_neg (by simpa using h), if_neg h]

/-- a whole number's text: what 'ParseInt' tells of it -/
theorem parse_cases {t : ByteArray} (h : wholeB t = true) :
    ((digsOf t).length ≤ 18 ∧ Lib.parseIntB 64 t.data.toList = .ok (if t.data.toList.head? = some 45 then -(decA 0 (digsOf t) : Int) else decA 0 (digsOf t))) ∨
    (18 < (digsOf t).length ∧ (Lib.parseIntB 64 t.data.toList = .range ∨ ∃ v : Int, Lib.parseIntB 64 t.data.toList = .ok v ∧ (1000000000000000000 ≤ v ∨ v ≤ -1000000000000000000))) := by
  obtain ⟨h1, h2, h3⟩ := whole_digs h
  have hd : digsOf t = if t.data.toList.head? = some 45 then t.data.toList.tail else t.data.toList := trimP _ _
  cases hl : t.data.toList with
  | nil => rw [hl] at hd; simp at hd; exact absurd hd h2
  | cons c r =>
    rw [hl] at hd h3
    have hdd : digsOf t = if c.toNat = 43 ∨ c.toNat = 45 then r else c :: r := by
      by_cases hc : c = 45
      · subst hc; rw [hd]; simp
      · have e : digsOf t = c :: r := by rw [hd, if_neg (by simpa using hc)]
        rw [e] at h1
        have h48 : 48 ≤ c.toNat ∧ c.toNat ≤ 57 := by rw [List.all_cons, Bool.and_eq_true] at h1; simpa [digOk] using h1.1
        rw [e, if_neg (by omega)]
    have hneg : (c.toNat = 45) = ((c :: r).head? = some 45) := by
      simp only [List.head?_cons, Option.some.injEq, eq_iff_iff]
      exact ⟨fun e => UInt8.toNat_inj.1 e, fun e => by rw [e]; rfl⟩
    have hU : Lib.parseUintB 64 (digsOf t) = Lib.parseUintM (2 ^ 64 - 1) 0 (digsOf t) := by unfold Lib.parseUintB; rw [if_neg h2]
    have hP : Lib.parseIntB 64 (c :: r) = match Lib.parseUintM (2 ^ 64 - 1) 0 (digsOf t) with
      | Lib.NumEnd.syntax => Lib.NumEnd.syntax
      | .range => .range
      | .ok u => if ¬ (c.toNat = 45) ∧ 2 ^ (64 - 1) ≤ u then .range else if c.toNat = 45 ∧ 2 ^ (64 - 1) < u then .range else .ok (if c.toNat = 45 then -(u : Int) else u) := by
      rw [← hU, hdd]; rfl
    rw [hP]
    by_cases hlen : (digsOf t).length ≤ 18
    · have hlt : decA 0 (digsOf t) < 1000000000000000000 := by
        have := decA_lt (digsOf t) 0 h1
        have h5 : (10 : Nat) ^ (digsOf t).length ≤ 10 ^ 18 := Nat.pow_le_pow_right (by omega) hlen
        omega
      refine .inl ⟨hlen, ?_⟩
      rw [parseUintM_small _ 1000000000000000000 (by decide) (Nat.le_refl _) _ _ h1 hlt]
      simp only
      have k1 : ¬ (¬ (c.toNat = 45) ∧ 2 ^ (64 - 1) ≤ decA 0 (digsOf t)) := by omega
      have k2 : ¬ (c.toNat = 45 ∧ 2 ^ (64 - 1) < decA 0 (digsOf t)) := by omega
      rw [if_neg k1, if_neg k2]
      by_cases hc : c.toNat = 45
      · rw [if_pos hc, if_pos (hneg ▸ hc)]
      · rw [if_neg hc, if_neg (fun e => hc (hneg ▸ e))]
    · refine .inr ⟨by omega, ?_⟩
      cases hu : Lib.parseUintM (2 ^ 64 - 1) 0 (digsOf t) with
      | range => exact .inl rfl
      | ok u =>
        have hv := parseUintM_ok _ _ _ _ hu
        have hbig : 1000000000000000000 ≤ u := by
          rw [hv]
          cases hq : digsOf t with
          | nil => exact absurd hq h2
          | cons x y =>
            rw [hq] at h1 h3 hlen
            have hx : 49 ≤ x.toNat := by
              have hx48 : 48 ≤ x.toNat ∧ x.toNat ≤ 57 := by rw [List.all_cons, Bool.and_eq_true] at h1; simpa [digOk] using h1.1
              rcases h3 with h3 | h3
              · have : x.toNat ≠ 48 := fun e => h3 (by simp only [List.head?_cons, Option.some.injEq]; exact UInt8.toNat_inj.1 e)
                omega
              · exfalso
                have : (x :: y).length ≤ (c :: r).length := by
                  rw [← hq, hdd]; split <;> simp
                rw [h3] at this
                simp only [List.length_cons, List.length_nil] at this hlen
                omega
            have hy : 18 ≤ y.length := by simp at hlen; omega
            exact big_digs x y hx hy
        simp only
        split
        · exact .inl rfl
        · split
          · exact .inl rfl
          · refine .inr ⟨_, rfl, ?_⟩
            split <;> omega
      | _ => exact absurd hu (parseUintM_digs _ _ _ h1)

end Go.Proofs.YtflomobdaagekaaDoor

namespace Go.Proofs.YtflomobdaagekaaDoor
open Go.RowKit Go.Proofs.YtflomobdaagekaaDoorW.PrintWords Go.Proofs.YtflomobdaagekaaDoorQ.WordA
set_option linter.unusedVariables false
set_option linter.unusedSimpArgs false

theorem wrapU {x : Int} (h0 : 0 ≤ x) (h1 : x < 18446744073709551616) : IntKind.u64.wrap x = x := by
  obtain ⟨n, rfl⟩ := Int.eq_ofNat_of_zero_le h0
  exact wrap_u64_small n (by omega)
theorem w64 {x : Int} (h0 : -9223372036854775808 ≤ x) (h1 : x ≤ 9223372036854775807) : wrap64 x = x := by unfold wrap64; omega
theorem bt_nat (s : ByteArray) (i : Nat) (h : i < s.size) : bt s (i : Int) = s[i].toNat := by simp [bt, h]
theorem bt_nat0 (s : ByteArray) (h : 0 < s.size) : bt s 0 = s[0].toNat := bt_nat s 0 h

theorem refMake_f (K : Int) (S : Bool) (V : Int) : lapidaryref01_Make.f 3 K S V = some (mkW K S V, mkE K S V) := by
  have no : mkE K S V ≠ 0 → mkW K S V = 0 := fun h => by unfold mkW; rw [if_neg h]
  have yes : mkE K S V = 0 → mkW K S V = mkB K V + (if S = true then 1 else 0) := fun h => by unfold mkW; rw [if_pos h]
  unfold lapidaryref01_Make.f
  by_cases h0 : K ≤ 0
  · have e : mkE K S V = 2 := by unfold mkE; rw [if_pos (.inl h0)]
    rw [no (by rw [e]; decide), e, if_pos (by omega)]
    simp [lapidaryref01_Make.j0]
  by_cases h4 : 4 < K
  · have e : mkE K S V = 2 := by unfold mkE; rw [if_pos (.inr (.inl h4))]
    rw [no (by rw [e]; decide), e, if_neg (by omega), if_pos (by omega)]
    simp [lapidaryref01_Make.j0]
  rw [if_neg (by omega), if_neg (by omega)]
  rcases (show K = 1 ∨ K = 2 ∨ K = 3 ∨ K = 4 by omega) with rfl | rfl | rfl | rfl
  · have e : mkE 1 S V = if V = 0 then 0 else 2 := by unfold mkE; rw [if_neg (by simp), if_neg (by decide), if_neg (by decide)]
    by_cases hv : V = 0
    · rw [if_pos hv] at e
      rw [yes e, e]
      cases S <;> simp [lapidaryref01_Make.j0, hv, mkB]
    · rw [if_neg hv] at e
      rw [no (by rw [e]; decide), e]
      simp [lapidaryref01_Make.j0, hv]
  · have e : mkE 2 S V = if 1 ≤ V ∧ V ≤ 16777215 then 0 else 4 := by unfold mkE; rw [if_neg (by simp), if_pos rfl]
    by_cases hv : 1 ≤ V ∧ V ≤ 16777215
    · rw [if_pos hv] at e
      rw [yes e, e]
      have w1 : IntKind.u64.wrap V = V := wrapU (by omega) (by omega)
      have w2 : IntKind.u64.wrap (8 * V) = 8 * V := wrapU (by omega) (by omega)
      have w3 : IntKind.u64.wrap (8 * V + 1) = 8 * V + 1 := wrapU (by omega) (by omega)
      have n1 : ¬ V < 1 := by omega
      have n2 : ¬ 16777215 < V := by omega
      cases S <;> simp [lapidaryref01_Make.j0, lapidaryref01_Make.j1, n1, n2, w1, w2, w3, mkB]
    · rw [if_neg hv] at e
      rw [no (by rw [e]; decide), e]
      by_cases n1 : V < 1
      · simp [lapidaryref01_Make.j0, lapidaryref01_Make.j1, n1]
      · have n2 : 16777215 < V := by omega
        simp [lapidaryref01_Make.j0, lapidaryref01_Make.j1, n1, n2]
  · have e : mkE 3 S V = if -576460752303423488 ≤ V ∧ V ≤ 576460752303423487 then 0 else 4 := by unfold mkE; rw [if_neg (by simp), if_neg (by decide), if_pos rfl]
    by_cases hv : -576460752303423488 ≤ V ∧ V ≤ 576460752303423487
    · rw [if_pos hv] at e
      rw [yes e, e]
      have w0 : wrap64 (V + 576460752303423488) = V + 576460752303423488 := w64 (by omega) (by omega)
      have w1 : IntKind.u64.wrap (V + 576460752303423488) = V + 576460752303423488 := wrapU (by omega) (by omega)
      have w2 : IntKind.u64.wrap (8 * (V + 576460752303423488)) = 8 * (V + 576460752303423488) := wrapU (by omega) (by omega)
      have w3 : IntKind.u64.wrap (8 * (V + 576460752303423488) + 4) = 8 * (V + 576460752303423488) + 4 := wrapU (by omega) (by omega)
      have w4 : IntKind.u64.wrap (8 * (V + 576460752303423488) + 4 + 1) = 8 * (V + 576460752303423488) + 4 + 1 := wrapU (by omega) (by omega)
      have n1 : ¬ V < -576460752303423488 := by omega
      have n2 : ¬ 576460752303423488 ≤ V := by omega
      cases S <;> simp [lapidaryref01_Make.j0, lapidaryref01_Make.j2, n1, n2, w0, w1, w2, w3, w4, mkB]
    · rw [if_neg hv] at e
      rw [no (by rw [e]; decide), e]
      by_cases n1 : V < -576460752303423488
      · simp [lapidaryref01_Make.j0, lapidaryref01_Make.j2, n1]
      · have n2 : 576460752303423488 ≤ V := by omega
        simp [lapidaryref01_Make.j0, lapidaryref01_Make.j2, n1, n2]
  · cases S
    · have e : mkE 4 false V = if V = 0 then 0 else 2 := by unfold mkE; rw [if_neg (by decide), if_neg (by decide), if_neg (by decide)]
      by_cases hv : V = 0
      · rw [if_pos hv] at e
        rw [yes e, e]
        simp [lapidaryref01_Make.j0, hv, mkB]
      · rw [if_neg hv] at e
        rw [no (by rw [e]; decide), e]
        simp [lapidaryref01_Make.j0, hv]
    · have e : mkE 4 true V = 2 := by unfold mkE; rw [if_pos (by decide)]
      rw [no (by rw [e]; decide), e]
      by_cases hv : V = 0 <;> simp [lapidaryref01_Make.j0, hv]
theorem refMake_calls (K : Int) (S : Bool) (V : Int) (w : World) :
    Calls Tryd.prog 15 #[.agg #[.int .i64 K, .bool S, .int .i64 V]] w fun e w' => e = .returned (.tuple #[.int .u64 (mkW K S V), .int .i64 (mkE K S V)]) ∧ Below w.heap.size w w' :=
  lapidaryref01_Make.calls 3 K S V _ _ w (refMake_f K S V)

theorem pow_le18 (i : Nat) (h : i ≤ 18) : (10 : Int) ^ i ≤ 1000000000000000000 := by
  have h1 := Nat.pow_le_pow_right (n := 10) (by omega) h
  have h2 : (10 : Nat) ^ 18 = 1000000000000000000 := by simp
  rw [h2] at h1
  have h3 : ((10 ^ i : Nat) : Int) = (10 : Int) ^ i := by simp
  rw [← h3]
  omega
def numR (less over : Bool) (n : Int) (l : List UInt8) : Int × Int :=
  if l.all digOk = true then (if over = true then (0, 4) else (if less = true then -(decA n.toNat l : Int) else decA n.toNat l, 0)) else (0, 2)

theorem num_loop (less over : Bool) (x : ByteArray) (hsz : x.size ≤ 140737488351232) : ∀ (d k : Nat) (n : Int) (i : Nat), x.size - i = d → i ≤ x.size → 2 * d + 1 ≤ k →
    (over = false → x.size ≤ 18 ∧ 0 ≤ n ∧ n < 10 ^ i) → lapidaryref01_number.l0 k less x n over (i : Int) = some (numR less over n (x.data.toList.drop i)) := by
  intro d
  induction d with
  | zero =>
    intro k n i hd hi hk hn
    obtain ⟨k, rfl⟩ : ∃ m, k = m + 1 := ⟨k - 1, by omega⟩
    have he : x.data.toList.drop i = [] := List.drop_eq_nil_of_le (by rw [Array.length_toList]; show x.size ≤ i; omega)
    rw [he]
    simp only [lapidaryref01_number.l0]
    rw [if_neg (by omega)]
    cases over with
    | true => simp [numR]
    | false =>
      obtain ⟨h1, h2, h3⟩ := hn rfl
      have h4 := pow_le18 i (by omega)
      generalize (10 : Int) ^ i = p at *
      have hw : wrap64 (-n) = -n := w64 (by omega) (by omega)
      have hnn : (n.toNat : Int) = n := Int.toNat_of_nonneg h2
      have hdn : decA n.toNat [] = n.toNat := rfl
      cases less <;> simp [numR, hdn, hw, hnn]
  | succ d ih =>
    intro k n i hd hi hk hn
    obtain ⟨k, rfl⟩ : ∃ m, k = m + 2 := ⟨k - 2, by omega⟩
    have hlt : i < x.size := by omega
    have hc : x.data.toList.drop i = x[i] :: x.data.toList.drop (i + 1) := by
      rw [List.drop_eq_getElem_cons (by rw [Array.length_toList]; exact hlt)]
      rfl
    have hb := bt_nat x i hlt
    have hwi : wrap64 ((i : Int) + 1) = ((i + 1 : Nat) : Int) := by rw [w64 (by omega) (by omega)]; omega
    rw [hc]
    simp only [lapidaryref01_number.l0]
    rw [if_pos (by omega), if_pos (by omega), hb]
    by_cases h1 : (x[i].toNat : Int) < 48
    · rw [if_pos h1]
      simp only [lapidaryref01_number.j4, if_true]
      have : digOk x[i] = false := by simp [digOk]; omega
      simp [numR, this]
    rw [if_neg h1]
    by_cases h2 : 57 < (x[i].toNat : Int)
    · simp only [lapidaryref01_number.j4]
      rw [if_pos (by simpa using h2)]
      have : digOk x[i] = false := by simp [digOk]; omega
      simp [numR, this]
    simp only [lapidaryref01_number.j4]
    rw [if_neg (by simpa using h2)]
    have hdig : digOk x[i] = true := by simp [digOk]; omega
    have hm : ((x[i].toNat : Int) - 48) % 256 = (x[i].toNat : Int) - 48 := Int.emod_eq_of_lt (by omega) (by omega)
    cases over with
    | true =>
      rw [if_pos rfl, hwi, ih k n (i + 1) (by omega) (by omega) (by omega) (fun h => by cases h)]
      simp [numR, hdig]
    | false =>
      obtain ⟨g1, g2, g3⟩ := hn rfl
      have h4 := pow_le18 (i + 1) (by omega)
      have h6 : (10 : Int) ^ (i + 1) = 10 ^ i * 10 := Int.pow_succ ..
      generalize (10 : Int) ^ i = p at *
      have w1 : wrap64 (10 * n) = 10 * n := w64 (by omega) (by omega)
      have w2 : wrap64 (10 * n + ((x[i].toNat : Int) - 48)) = 10 * n + ((x[i].toNat : Int) - 48) := w64 (by omega) (by omega)
      rw [if_neg (by decide), if_pos (by omega), if_pos (by omega), hb, hm, hwi, w1, w2]
      rw [ih k _ (i + 1) (by omega) (by omega) (by omega) (fun _ => ⟨g1, by omega, by rw [h6]; omega⟩)]
      have hdec : decA (10 * n + ((x[i].toNat : Int) - 48)).toNat (x.data.toList.drop (i + 1)) = decA n.toNat (x[i] :: x.data.toList.drop (i + 1)) := by
        show _ = decA (n.toNat * 10 + (x[i].toNat - 48)) _
        congr 1
        omega
      simp only [numR, List.all_cons, hdig, Bool.true_and, hdec]

end Go.Proofs.YtflomobdaagekaaDoor

namespace Go.Proofs.YtflomobdaagekaaDoor
open Go.RowKit Go.Proofs.YtflomobdaagekaaDoorW.PrintWords Go.Proofs.YtflomobdaagekaaDoorQ.WordA
set_option linter.unusedVariables false
set_option linter.unusedSimpArgs false

theorem data_size (x : ByteArray) : x.data.toList.length = x.size := by rw [Array.length_toList]; rfl
theorem head_48 {x : ByteArray} (h : 0 < x.size) : (bt x 0 = 48) ↔ x.data.toList.head? = some 48 := by
  rw [bt_nat0 x h, head_at h, Option.some.injEq]
  exact ⟨fun e => UInt8.toNat_inj.1 (by simp; omega), fun e => by rw [e]; rfl⟩
theorem head_c {x : ByteArray} (h : 0 < x.size) (c : UInt8) (n : Int) (hc : (c.toNat : Int) = n) : (bt x 0 == n) = decide (x.data.toList.head? = some c) := by
  rw [bt_nat0 x h, head_at h, Bool.eq_iff_iff]
  simp only [beq_iff_eq, decide_eq_true_eq, Option.some.injEq]
  exact ⟨fun e => UInt8.toNat_inj.1 (by omega), fun e => by rw [e]; exact hc⟩
theorem extract_tail (x : ByteArray) : (x.extract 1 x.size).data.toList = x.data.toList.tail := by
  have h : (x.extract 1 x.size).data = x.data.extract 1 x.size := ByteArray.data_extract
  rw [h]
  simp only [Array.toList_extract, List.extract_eq_take_drop, List.drop_one]
  exact List.take_of_length_le (by rw [List.length_tail, data_size]; exact Nat.le_refl _)
theorem head_none {x : ByteArray} (h : x.size = 0) : x.data.toList = [] := List.eq_nil_of_length_eq_zero (by rw [data_size]; exact h)

theorem j1_f (less : Bool) (x : ByteArray) (hsz : x.size ≤ 140737488351232) (k : Nat) (hk : 2 * x.size + 3 ≤ k) :
    lapidaryref01_number.j1 k less x = some (if x.size = 0 ∨ (x.data.toList.head? = some 48 ∧ (less = true ∨ 1 < x.size)) then (0, 2) else numR less (decide (18 < x.size)) 0 x.data.toList) := by
  obtain ⟨k, rfl⟩ : ∃ m, k = m + 2 := ⟨k - 2, by omega⟩
  simp only [lapidaryref01_number.j1]
  by_cases h0 : x.size = 0
  · rw [if_pos (by omega), if_pos (.inl h0)]
    simp [lapidaryref01_number.j2]
  have hp : 0 < x.size := by omega
  rw [if_neg (by omega), if_pos (by omega)]
  have hgo : lapidaryref01_number.j2 (k + 1) less x false = some (numR less (decide (18 < x.size)) 0 x.data.toList) := by
    simp only [lapidaryref01_number.j2]
    rw [if_neg (by decide)]
    have hover : (decide ((x.size : Int) > 18)) = decide (18 < x.size) := by rw [decide_eq_decide]; omega
    rw [hover]
    have := num_loop less (decide (18 < x.size)) x hsz x.size k 0 0 (by omega) (by omega) (by omega) (fun h => ⟨by simpa using h, by omega, by simp⟩)
    simpa using this
  have hno : lapidaryref01_number.j2 (k + 1) less x true = some (0, 2) := by simp [lapidaryref01_number.j2]
  by_cases h48 : bt x 0 = 48
  · have e48 := (head_48 hp).1 h48
    rw [if_pos h48]
    cases less with
    | true => rw [if_pos rfl, hno, if_pos (.inr ⟨e48, .inl rfl⟩)]
    | false =>
      rw [if_neg (by decide)]
      by_cases h1 : 1 < x.size
      · have : (decide ((x.size : Int) > 1)) = true := by rw [decide_eq_true_eq]; omega
        rw [this, hno, if_pos (.inr ⟨e48, .inr h1⟩)]
      · have : (decide ((x.size : Int) > 1)) = false := by rw [decide_eq_false_iff_not]; omega
        rw [this, hgo, if_neg]
        rintro (h | ⟨_, h | h⟩)
        · exact h0 h
        · cases h
        · exact h1 h
  · rw [if_neg h48, hgo, if_neg]
    rintro (h | ⟨h, _⟩)
    · exact h0 h
    · exact h48 ((head_48 hp).2 h)

def numV (t : ByteArray) : Int × Int :=
  if wholeB t = true then (if 18 < (digsOf t).length then (0, 4) else (if t.data.toList.head? = some 45 then -(decA 0 (digsOf t) : Int) else decA 0 (digsOf t), 0)) else (0, 2)

theorem numV_of (t x : ByteArray) (hx : x.data.toList = digsOf t) :
    (if x.size = 0 ∨ (x.data.toList.head? = some 48 ∧ (decide (t.data.toList.head? = some 45) = true ∨ 1 < x.size)) then (0, 2) else numR (decide (t.data.toList.head? = some 45)) (decide (18 < x.size)) 0 x.data.toList) = numV t := by
  have hs : x.size = (digsOf t).length := by rw [← hx, data_size]
  have hd : digsOf t = if t.data.toList.head? = some 45 then t.data.toList.tail else t.data.toList := trimP _ _
  rw [hs, hx]
  have hw : wholeB t = ((digsOf t).all digOk && (!(digsOf t).isEmpty && ((digsOf t).head? != some 48 || decide (t.data.toList = [48])))) := by
    unfold wholeB
    rw [ByteArray.toList_eq]
    congr 3
    rw [Bool.eq_iff_iff]; simp
  by_cases hA : (digsOf t).length = 0 ∨ ((digsOf t).head? = some 48 ∧ (decide (t.data.toList.head? = some 45) = true ∨ 1 < (digsOf t).length))
  · rw [if_pos hA]
    have : wholeB t = false := by
      rw [hw]
      rcases hA with h | ⟨h, h2⟩
      · rw [List.eq_nil_of_length_eq_zero h]; rfl
      · have h3 : ¬ t.data.toList = [48] := by
          intro e
          rcases h2 with h2 | h2
          · rw [e] at h2; simp at h2
          · rw [hd, e] at h2; simp at h2
        simp [h, h3]
    unfold numV
    rw [if_neg (by rw [this]; decide)]
  · rw [if_neg hA]
    have hne : (digsOf t).isEmpty = false := by
      rw [List.isEmpty_eq_false_iff]; intro e; exact hA (.inl (by rw [e]; rfl))
    have hB : ((digsOf t).head? != some 48 || decide (t.data.toList = [48])) = true := by
      by_cases h48 : (digsOf t).head? = some 48
      · have hm : ¬ t.data.toList.head? = some 45 := fun e => hA (.inr ⟨h48, .inl (by simpa using e)⟩)
        have hl : ¬ 1 < (digsOf t).length := fun e => hA (.inr ⟨h48, .inr e⟩)
        rw [if_neg hm] at hd
        rw [hd] at h48 hl
        have : t.data.toList = [48] := by
          cases hq : t.data.toList with
          | nil => rw [hq] at h48; cases h48
          | cons a r =>
            rw [hq] at h48 hl
            simp only [List.head?_cons, Option.some.injEq] at h48
            simp only [List.length_cons] at hl
            rw [h48, List.eq_nil_of_length_eq_zero (show r.length = 0 by omega)]
        simp [this]
      · simp [h48]
    have hw2 : wholeB t = (digsOf t).all digOk := by rw [hw, hne, hB]; simp
    unfold numR numV
    rw [hw2]
    by_cases ha : (digsOf t).all digOk = true
    · rw [if_pos ha, if_pos ha]
      by_cases hl : 18 < (digsOf t).length
      · rw [if_pos (by simpa using hl), if_pos hl]
      · rw [if_neg (by simpa using hl), if_neg hl]
        by_cases hm : t.data.toList.head? = some 45
        · rw [if_pos (by simpa using hm), if_pos hm]; rfl
        · rw [if_neg (by simpa using hm), if_neg hm]; rfl
    · rw [if_neg ha, if_neg ha]

theorem num_f (t : ByteArray) (ht : t.size ≤ 140737488351232) (k : Nat) (hk : 2 * t.size + 6 ≤ k) : lapidaryref01_number.f k t = some (numV t) := by
  unfold lapidaryref01_number.f
  obtain ⟨k, rfl⟩ : ∃ m, k = m + 1 := ⟨k - 1, by omega⟩
  by_cases h0 : t.size = 0
  · rw [if_neg (by omega)]
    have hn := head_none h0
    have e : digsOf t = t.data.toList := by rw [show digsOf t = _ from trimP _ _, hn]; rfl
    have := numV_of t t e.symm
    rw [hn] at this
    simp only [lapidaryref01_number.j0]
    rw [if_neg (by decide), j1_f false t ht k (by omega), ← this, hn]
    simp
  · rw [if_pos (by omega), if_pos (by omega), head_c (by omega) 45 45 rfl]
    simp only [lapidaryref01_number.j0]
    by_cases hm : t.data.toList.head? = some 45
    · have hd : (decide (t.data.toList.head? = some 45)) = true := by simpa using hm
      have hx : (t.extract 1 t.size).data.toList = digsOf t := by rw [extract_tail, show digsOf t = _ from trimP _ _, if_pos hm]
      have hs : (t.extract 1 t.size).size ≤ t.size := by
        rw [← data_size, extract_tail, ← data_size, List.length_tail]; omega
      rw [if_pos hd, if_pos (by omega), j1_f _ _ (by omega) k (by omega), numV_of t _ hx]
    · have hd : (decide (t.data.toList.head? = some 45)) = false := by simpa using hm
      have hx : t.data.toList = digsOf t := by rw [show digsOf t = _ from trimP _ _, if_neg hm]
      rw [if_neg (by rw [hd]; decide), j1_f _ _ ht k (by omega), numV_of t _ hx]

end Go.Proofs.YtflomobdaagekaaDoor

namespace Go.Proofs.YtflomobdaagekaaDoor
open Go.RowKit Go.Proofs.YtflomobdaagekaaDoorW.PrintWords Go.Proofs.YtflomobdaagekaaDoorQ.WordA
set_option linter.unusedVariables false
set_option linter.unusedSimpArgs false

theorem make_k (K : Int) (S : Bool) (V : Int) : ∀ k, 3 ≤ k → lapidaryref01_Make.f k K S V = some (mkW K S V, mkE K S V) := by
  intro k
  induction k with
  | zero => intro h; omega
  | succ k ih =>
    intro h
    by_cases h3 : k = 2
    · subst h3; exact refMake_f K S V
    · exact lapidaryref01_Make.mono K S V k _ (ih (by omega))
theorem bytes_inj' {a b : ByteArray} (h : a.data.toList = b.data.toList) : a = b := by
  have h2 : a.data = b.data := Array.toList_inj.1 h
  cases a; cases b
  exact congrArg ByteArray.mk h2
theorem cut_eq (s : ByteArray) (c : UInt8) : (if s.data.toList.head? = some c then s.extract 1 s.size else s) = ⟨(Lib.trimPrefix s.data.toList [c]).toArray⟩ := by
  apply bytes_inj'
  rw [trimP]
  split
  · rw [extract_tail]
  · rfl
theorem mk_big (K : Int) (hK : K = 2 ∨ K = 3) (S : Bool) (v : Int) (hv : 1000000000000000000 ≤ v ∨ v ≤ -1000000000000000000) : mkW K S v = 0 ∧ mkE K S v = 4 := by
  have e : mkE K S v = 4 := by
    unfold mkE
    rcases hK with rfl | rfl
    · rw [if_neg (by simp), if_pos rfl, if_neg (by omega)]
    · rw [if_neg (by simp), if_neg (by decide), if_pos rfl, if_neg (by omega)]
  exact ⟨by unfold mkW; rw [e]; rfl, e⟩
theorem rK_two (s : ByteArray) : rK s = 2 ∨ rK s = 3 := by unfold rK; split <;> simp

theorem read_j4 (s : ByteArray) (hs : (rt s).size ≤ 140737488351232) (n1 : ¬ (rs1 s).toList = [110, 117, 108, 108]) (n2 : ¬ (rs1 s).toList = [101, 109, 112, 116, 121]) (k : Nat) (hk : 2 * (rt s).size + 10 ≤ k) :
    lapidaryref01_Read.j4 k (rt s) (decide (rP s = true ∧ (rt s).data.toList.head? = some 45)) (rK s) (rS s) 0 = some (readW s, readE s) := by
  obtain ⟨k, rfl⟩ : ∃ m, k = m + 1 := ⟨k - 1, by omega⟩
  simp only [lapidaryref01_Read.j4]
  by_cases hf : rP s = true ∧ (rt s).data.toList.head? = some 45
  · have h3 : wholeB (rt s) = false ∨ (rP s = true ∧ (rt s).data.toList.head? = some 45) := .inr hf
    rw [if_pos (by simpa using hf)]
    unfold readW readE readG
    rw [if_neg n1, if_neg n1, if_neg n2, if_neg n2, if_pos h3, if_pos h3]
  · rw [if_neg (by simpa using hf), num_f _ hs k (by omega)]
    simp only [Option.bind_some]
    cases hb : wholeB (rt s) with
    | false =>
      have h3 : wholeB (rt s) = false ∨ (rP s = true ∧ (rt s).data.toList.head? = some 45) := .inl hb
      have e : numV (rt s) = (0, 2) := by unfold numV; rw [if_neg (by rw [hb]; decide)]
      rw [e, if_neg (by decide)]
      unfold readW readE readG
      rw [if_neg n1, if_neg n1, if_neg n2, if_neg n2, if_pos h3, if_pos h3]
    | true =>
      have h3 : ¬ (wholeB (rt s) = false ∨ (rP s = true ∧ (rt s).data.toList.head? = some 45)) := by
        rintro (h | h)
        · rw [hb] at h; cases h
        · exact hf h
      have e1 : readW s = numMk (mkW (rK s) (rS s)) 0 (rt s).data.toList := by unfold readW readG; rw [if_neg n1, if_neg n2, if_neg h3]
      have e2 : readE s = numMk (mkE (rK s) (rS s)) 4 (rt s).data.toList := by unfold readE readG; rw [if_neg n1, if_neg n2, if_neg h3]
      rw [e1, e2]
      rcases parse_cases hb with ⟨hl, hp⟩ | ⟨hl, hp⟩
      · have e : numV (rt s) = (if (rt s).data.toList.head? = some 45 then -(decA 0 (digsOf (rt s)) : Int) else decA 0 (digsOf (rt s)), 0) := by
          unfold numV; rw [if_pos hb, if_neg (by omega)]
        rw [e, if_pos rfl, make_k _ _ _ k (by omega)]
        simp only [Option.bind_some]
        unfold numMk
        rw [hp]
      · have e : numV (rt s) = (0, 4) := by unfold numV; rw [if_pos hb, if_pos hl]
        rw [e, if_neg (by decide)]
        rcases hp with hp | ⟨v, hp, hv⟩
        · unfold numMk; rw [hp]
        · obtain ⟨a, b⟩ := mk_big (rK s) (rK_two s) (rS s) v hv
          unfold numMk
          rw [hp]
          simp only [a, b]

theorem refRead_f (s : ByteArray) (hs : s.size ≤ 140737488351232) : lapidaryref01_Read.f (2 * s.size + 20) s = some (readW s, readE s) := by
  have hts := rt_size s
  have hS : rS s = decide (s.data.toList.head? = some 33) := hasP _ _
  have hP : rP s = decide ((rs1 s).data.toList.head? = some 64) := hasP _ _
  have c1 := cut_eq s 33
  have c2 := cut_eq (rs1 s) 64
  have hj3 : ∀ k, 2 * (rt s).size + 11 ≤ k → lapidaryref01_Read.j3 k (rt s) (rK s) (rS s) 0 = if (rs1 s).toList = [110, 117, 108, 108] ∨ (rs1 s).toList = [101, 109, 112, 116, 121] then lapidaryref01_Read.j3 k (rt s) (rK s) (rS s) 0 else some (readW s, readE s) := by
    intro k hk
    split
    · rfl
    rename_i hn
    have n1 : ¬ (rs1 s).toList = [110, 117, 108, 108] := fun e => hn (.inl e)
    have n2 : ¬ (rs1 s).toList = [101, 109, 112, 116, 121] := fun e => hn (.inr e)
    obtain ⟨k, rfl⟩ : ∃ m, k = m + 1 := ⟨k - 1, by omega⟩
    have hq := read_j4 s (by omega) n1 n2 k (by omega)
    simp only [lapidaryref01_Read.j3]
    by_cases hp : rP s = true
    · have hk2 : rK s = 2 := by unfold rK; rw [if_pos hp]
      rw [hk2] at hq ⊢
      rw [if_pos rfl]
      by_cases h0 : (rt s).size = 0
      · rw [if_neg (by omega)]
        rw [head_none h0] at hq
        simpa using hq
      · rw [if_pos (by omega), if_pos (by omega), head_c (by omega) 45 45 rfl]
        simpa [hp] using hq
    · have hk2 : rK s = 3 := by unfold rK; rw [if_neg hp]
      rw [hk2] at hq ⊢
      rw [if_neg (by decide)]
      simpa [hp] using hq
  have hj1 : ∀ k, 2 * (rt s).size + 14 ≤ k → lapidaryref01_Read.j1 k (rs1 s) 3 (rS s) 0 = some (readW s, readE s) := by
    intro k hk
    obtain ⟨k, rfl⟩ : ∃ m, k = m + 2 := ⟨k - 2, by omega⟩
    simp only [lapidaryref01_Read.j1]
    by_cases n1 : (rs1 s).toList = [110, 117, 108, 108]
    · rw [if_pos n1, make_k _ _ _ _ (by omega)]
      unfold readW readE readG
      rw [if_pos n1, if_pos n1]
      rfl
    rw [if_neg n1]
    by_cases n2 : (rs1 s).toList = [101, 109, 112, 116, 121]
    · rw [if_pos n2, make_k _ _ _ _ (by omega)]
      unfold readW readE readG
      rw [if_neg n1, if_neg n1, if_pos n2, if_pos n2]
      rfl
    rw [if_neg n2]
    have h3 := hj3 k (by omega)
    rw [if_neg (by rintro (h | h); exact n1 h; exact n2 h)] at h3
    by_cases h0 : (rs1 s).size = 0
    · have e := head_none h0
      have hp : rP s = false := by rw [hP, e]; rfl
      have ht : rt s = rs1 s := by rw [e] at c2; simp only [List.head?_nil, reduceCtorEq, if_false] at c2; exact ((show rt s = _ by unfold rt; rw [e]; exact c2.symm))
      have hk2 : rK s = 3 := by unfold rK; rw [if_neg (by rw [hp]; decide)]
      rw [ht, hk2] at h3
      rw [if_neg (by omega)]
      simp only [lapidaryref01_Read.j2]
      rw [if_neg (by decide), h3]
    · rw [if_pos (by omega), if_pos (by omega), head_c (by omega) 64 64 rfl]
      simp only [lapidaryref01_Read.j2]
      by_cases hp : (rs1 s).data.toList.head? = some 64
      · have hk2 : rK s = 2 := by unfold rK; rw [if_pos (by rw [hP]; simpa using hp)]
        have ht : rt s = (rs1 s).extract 1 (rs1 s).size := by rw [if_pos hp] at c2; exact c2.symm
        rw [ht, hk2] at h3
        rw [if_pos (by simpa using hp), if_pos (by omega), h3]
      · have hk2 : rK s = 3 := by unfold rK; rw [if_neg (by rw [hP]; simpa using hp)]
        have ht : rt s = rs1 s := by rw [if_neg hp] at c2; exact c2.symm
        rw [ht, hk2] at h3
        rw [if_neg (by simpa using hp), h3]
  unfold lapidaryref01_Read.f
  by_cases h0 : s.size = 0
  · have e := head_none h0
    have h1 := hj1 (2 * s.size + 19) (by omega)
    have hx : rs1 s = s := by rw [e] at c1; simp only [List.head?_nil, reduceCtorEq, if_false] at c1; exact (show rs1 s = _ by unfold rs1; rw [e]; exact c1.symm)
    rw [hS, e, hx] at h1
    rw [if_neg (by omega)]
    simp only [lapidaryref01_Read.j0]
    rw [if_neg (by decide)]
    simpa using h1
  · have h1 := hj1 (2 * s.size + 19) (by omega)
    rw [if_pos (by omega), if_pos (by omega), head_c (by omega) 33 33 rfl]
    simp only [lapidaryref01_Read.j0]
    by_cases hp : s.data.toList.head? = some 33
    · have ht : rs1 s = s.extract 1 s.size := by rw [if_pos hp] at c1; exact c1.symm
      rw [ht, hS] at h1
      rw [if_pos (by simpa using hp), if_pos (by omega)]
      simpa [hp] using h1
    · have ht : rs1 s = s := by rw [if_neg hp] at c1; exact c1.symm
      rw [ht, hS] at h1
      rw [if_neg (by simpa using hp)]
      simpa [hp] using h1
theorem refRead_calls (s : ByteArray) (hs : s.size ≤ 140737488351232) (w : World) :
    Calls Tryd.prog 23 #[.string s] w fun e w' => e = .returned (.tuple #[.int .u64 (readW s), .int .i64 (readE s)]) ∧ Below w.heap.size w w' :=
  lapidaryref01_Read.calls _ s _ _ w (refRead_f s hs)

end Go.Proofs.YtflomobdaagekaaDoor

namespace Go.Proofs.YtflomobdaagekaaDoor
open Go.RowKit Go.Proofs.YtflomobdaagekaaDoorW.PrintWords Go.Proofs.YtflomobdaagekaaDoorQ.WordA
set_option linter.unusedVariables false
set_option linter.unusedSimpArgs false

theorem wEven_div (x : Int) (h0 : 0 ≤ x) : wEven x / 8 = x / 8 := by unfold wEven; omega
theorem wdK_cases (x : Int) : wdK x = 0 ∨ wdK x = 1 ∨ wdK x = 2 ∨ wdK x = 3 ∨ wdK x = 4 := by
  unfold wdK
  split
  · exact .inr (.inr (.inr (.inr rfl)))
  · split
    · exact .inr (.inl rfl)
    · split
      · exact .inr (.inr (.inl rfl))
      · split
        · exact .inr (.inr (.inr (.inl rfl)))
        · exact .inl rfl
theorem wdK_two {x : Int} (h : wdK x = 2) (h0 : 0 ≤ x) : 1 ≤ x / 8 ∧ x / 8 ≤ 16777215 ∧ wEven x % 8 = 0 := by
  unfold wdK at h
  split at h
  · cases h
  · split at h
    · cases h
    · split at h
      · rename_i h2 h3
        unfold wEven at *
        omega
      · split at h <;> cases h
theorem wdK_three {x : Int} (h : wdK x = 3) (h0 : 0 ≤ x) : x / 8 < 1152921504606846976 ∧ wEven x % 8 = 4 := by
  unfold wdK at h
  split at h
  · cases h
  · split at h
    · cases h
    · split at h
      · cases h
      · split at h
        · rename_i h2 h3 h4
          unfold wEven at *
          omega
        · cases h
theorem wdV_two {x : Int} (h : wdK x = 2) (h0 : 0 ≤ x) : wdV x = x / 8 := by unfold wdV; rw [if_pos h, wEven_div x h0]
theorem wdV_three {x : Int} (h : wdK x = 3) (h0 : 0 ≤ x) : wdV x = x / 8 - 576460752303423488 := by unfold wdV; rw [if_neg (by rw [h]; decide), if_pos h, wEven_div x h0]
theorem wdV_else {x : Int} (h2 : wdK x ≠ 2) (h3 : wdK x ≠ 3) : wdV x = 0 := by unfold wdV; rw [if_neg h2, if_neg h3]
theorem wdV_bound (x : Int) (h0 : 0 ≤ x) (h1 : x < 18446744073709551616) : -576460752303423488 ≤ wdV x ∧ wdV x < 576460752303423488 := by
  rcases wdK_cases x with k | k | k | k | k
  · rw [wdV_else (by rw [k]; decide) (by rw [k]; decide)]; omega
  · rw [wdV_else (by rw [k]; decide) (by rw [k]; decide)]; omega
  · have := wdK_two k h0; rw [wdV_two k h0]; omega
  · have := wdK_three k h0; rw [wdV_three k h0]; omega
  · rw [wdV_else (by rw [k]; decide) (by rw [k]; decide)]; omega
theorem wdS_eq (x : Int) : wdS x = (decide (wdK x ≠ 0) && decide (wdK x ≠ 4) && decide (x % 2 = 1)) := by
  unfold wdS; rw [Bool.eq_iff_iff]; simp [and_assoc]

theorem wordOf_f (x : Int) (h0 : 0 ≤ x) (h1 : x < 18446744073709551616) : word_Of.f x = some (wdK x, wdS x, wdV x) := by
  have e1 : word_of.f x = some (lookB x, wdK x) := by unfold word_of.f; rw [if_pos h0, if_pos h1]
  have hpl : word_bits_plain.f x = some (wEven x) := by unfold word_bits_plain.f; rw [if_pos h0, if_pos h1]
  have hhe : word_bits_held.f x = some (x / 8) := by unfold word_bits_held.f; rw [if_pos h0, if_pos h1]
  have hev : (wEven x != x) = decide (x % 2 = 1) := by unfold wEven; rw [Bool.eq_iff_iff]; simp; omega
  have hS := wdS_eq x
  unfold word_Of.f
  rw [e1]
  simp only [Option.bind_some]
  rcases wdK_cases x with k | k | k | k | k
  · have lb : lookB x = 0 := by simp [lookB, k]
    rw [k] at hS
    rw [lb, k, hS, wdV_else (by rw [k]; decide) (by rw [k]; decide)]
    simp [word_look_full.f, word_look_value.f]
  · have lb : lookB x = x := by simp [lookB, k]
    rw [k] at hS
    rw [lb, k, hS, wdV_else (by rw [k]; decide) (by rw [k]; decide)]
    simp [word_look_full.f, word_look_value.f, hpl, hev]
  · have lb : lookB x = x := by simp [lookB, k]
    have b := wdK_two k h0
    have w1 : wrap64 (x / 8) = x / 8 := w64 (by omega) (by omega)
    have hv := wdV_two k h0
    rw [k] at hS
    rw [lb, k, hS, hv]
    simp [word_look_full.f, word_look_value.f, hpl, hev, hhe, w1]
  · have lb : lookB x = x := by simp [lookB, k]
    have b := wdK_three k h0
    have w1 : wrap64 (x / 8) = x / 8 := w64 (by omega) (by omega)
    have w2 : wrap64 (x / 8 - 576460752303423488) = x / 8 - 576460752303423488 := w64 (by omega) (by omega)
    have hv := wdV_three k h0
    rw [k] at hS
    rw [lb, k, hS, hv]
    simp [word_look_full.f, word_look_value.f, hpl, hev, hhe, w1, w2]
  · have lb : lookB x = x := by simp [lookB, k]
    rw [k] at hS
    rw [lb, k, hS, wdV_else (by rw [k]; decide) (by rw [k]; decide)]
    simp [word_look_full.f, word_look_value.f]
theorem wordOf_calls (x : Int) (h0 : 0 ≤ x) (h1 : x < 18446744073709551616) (w : World) :
    Calls Tryd.prog 11 #[.int .u64 x] w fun e w' => e = .returned (.agg #[.int .i64 (wdK x), .bool (wdS x), .int .i64 (wdV x)]) ∧ Below w.heap.size w w' :=
  word_Of.calls x _ _ _ w (wordOf_f x h0 h1)

def textB (K V : Int) : ByteArray := if K = 1 then ⟨#[110, 117, 108, 108]⟩ else if K = 2 then (⟨#[64]⟩ : ByteArray) ++ numS V else if K = 3 then numS V else if K = 4 then ⟨#[101, 109, 112, 116, 121]⟩ else ⟨#[98, 97, 100]⟩
def textG (K : Int) (S : Bool) (V : Int) : ByteArray := if S = true then (⟨#[33]⟩ : ByteArray) ++ textB K V else textB K V
def textW (x : Int) : ByteArray := textG (wdK x) (wdS x) (wdV x)
theorem numS_len (V : Int) (h0 : -9223372036854775808 ≤ V) (h1 : V ≤ 9223372036854775807) : (numS V).size ≤ 30 := by
  have := Lib.itoa_length_le V h0 h1
  show (Lib.itoa V).toArray.size ≤ 30
  rw [List.size_toArray]
  omega
theorem formatInt_calls (V : Int) (h0 : -9223372036854775808 ≤ V) (h1 : V ≤ 9223372036854775807) (w : World) (hT : PowTab w) :
    Calls Tryd.prog 37 #[.int .i64 V, .int .i64 10] w fun e w' => e = .returned (.string (numS V)) ∧ Below w.heap.size w w' := by
  refine (Tryd.strconv_FormatInt_10 V h0 h1 w hT).mono ?_
  rintro e w' ⟨rfl, k, os, rfl⟩
  exact ⟨rfl, below_grow w k os⟩
theorem empty_app (s : ByteArray) : (⟨#[]⟩ : ByteArray) ++ s = s := by
  apply bytes_inj'
  simp [ByteArray.data_append]
theorem app_assoc (a b c : ByteArray) : a ++ b ++ c = a ++ (b ++ c) := by
  apply bytes_inj'
  simp [ByteArray.data_append]

theorem wordText_calls (x : Int) (h0 : 0 ≤ x) (h1 : x < 18446744073709551616) (w : World) (hT : WOk w) :
    Calls Tryd.prog 20 #[.int .u64 x] w fun e w' => e = .returned (.string (textW x)) ∧ Below w.heap.size w w' := by
  have hO := fun W => wordOf_calls x h0 h1 W
  have hv := wdV_bound x h0 h1
  have hS := wdS_eq x
  have hF : ∀ W, Below w.heap.size w W → Calls Tryd.prog 37 #[.int .i64 (wdV x), .int .i64 10] W fun e W' => e = .returned (.string (numS (wdV x))) ∧ Below W.heap.size W W' :=
    fun W hb => formatInt_calls _ (by omega) (by omega) W (hT.below hb).pow
  have hl := numS_len (wdV x) (by omega) (by omega)
  unfold textW textG textB
  rcases wdK_cases x with k | k | k | k | k
  · have v := wdV_else (x := x) (by rw [k]; decide) (by rw [k]; decide)
    have s : wdS x = false := by rw [hS, k]; rfl
    rw [k, s, v] at hO
    rw [k, s]
    exact text_0f x hO w
  · have v := wdV_else (x := x) (by rw [k]; decide) (by rw [k]; decide)
    cases s : wdS x with
    | false => rw [k, s, v] at hO; rw [k]; exact text_1f x hO w
    | true => rw [k, s, v] at hO; rw [k]; exact text_1t x hO w
  · cases s : wdS x with
    | false => rw [k, s] at hO; rw [k]; exact text_2f x _ _ hl w hF hO
    | true => rw [k, s] at hO; rw [k]; exact text_2t x _ _ hl w hF hO
  · cases s : wdS x with
    | false => rw [k, s] at hO; rw [k]; exact text_3f x _ _ hl w hF hO
    | true => rw [k, s] at hO; rw [k]; exact text_3t x _ _ hl w hF hO
  · have v := wdV_else (x := x) (by rw [k]; decide) (by rw [k]; decide)
    have s : wdS x = false := by rw [hS, k]; rfl
    rw [k, s, v] at hO
    rw [k, s]
    exact text_4f x hO w

theorem refText_calls (x : Int) (h0 : 0 ≤ x) (h1 : x < 18446744073709551616) (w : World) :
    Calls Tryd.prog 22 #[.int .u64 x] w fun e w' => e = .returned (.string (textW x)) ∧ Below w.heap.size w w' := by
  have hO := fun W => wdOf_calls x h0 h1 W
  have hv := wdV_bound x h0 h1
  have hS := wdS_eq x
  have hF := fun W => number_calls (wdV x) (by omega) (by omega) W
  have hl := numS_len (wdV x) (by omega) (by omega)
  unfold textW textG textB
  rcases wdK_cases x with k | k | k | k | k
  · have v := wdV_else (x := x) (by rw [k]; decide) (by rw [k]; decide)
    have s : wdS x = false := by rw [hS, k]; rfl
    rw [k, s, v] at hO
    rw [k, s]
    exact rtext_0f x hO w
  · have v := wdV_else (x := x) (by rw [k]; decide) (by rw [k]; decide)
    cases s : wdS x with
    | false => rw [k, s, v] at hO; rw [k]; have := rtext_1f x hO w; rw [empty_app] at this; exact this
    | true => rw [k, s, v] at hO; rw [k]; exact rtext_1t x hO w
  · cases s : wdS x with
    | false => rw [k, s] at hO; rw [k]; have := rtext_2f x _ _ hl hF hO w; rw [empty_app] at this; exact this
    | true => rw [k, s] at hO; rw [k]; have := rtext_2t x _ _ hl hF hO w; rw [app_assoc] at this; exact this
  · cases s : wdS x with
    | false => rw [k, s] at hO; rw [k]; have := rtext_3f x _ _ hl hF hO w; rw [empty_app] at this; exact this
    | true => rw [k, s] at hO; rw [k]; exact rtext_3t x _ _ hl hF hO w
  · have v := wdV_else (x := x) (by rw [k]; decide) (by rw [k]; decide)
    have s : wdS x = false := by rw [hS, k]; rfl
    rw [k, s, v] at hO
    rw [k, s]
    exact rtext_4f x hO w

end Go.Proofs.YtflomobdaagekaaDoor
