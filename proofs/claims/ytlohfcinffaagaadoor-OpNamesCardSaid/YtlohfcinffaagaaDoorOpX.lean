/- The reference of layer 'op': a text's number. -/
import Derived.Test.YtlohfcinffaagaaDoorOpS
import Derived.Test.YtlohfcinffaagaaDoorKit
import Derived.LoopTactic
import Derived.Deep.Cut
namespace Go.Proofs.YtlohfcinffaagaaDoor
open Go.RowKit
set_option linter.unusedVariables false
set_option linter.unusedSimpArgs false

/-- the number of digits behind a sign, or without one -/
def wholeR (less : Bool) (d : List UInt8) : Option Int :=
  if less = true then (if canonB d = true ∧ d ≠ [48] ∧ decA 0 d ≤ 9223372036854775808 then some (-(decA 0 d : Int)) else none)
  else if canonB d = true ∧ decA 0 d < 9223372036854775808 then some (decA 0 d : Int) else none
theorem wholeR_minus {l : List UInt8} (h : l.head? = some 45) : wholeV l = wholeR true l.tail := by
  rw [wholeV_eq]; unfold wholeD wholeR; rw [if_pos h, if_pos rfl]
theorem wholeR_plain {l : List UInt8} (h : l.head? ≠ some 45) : wholeV l = wholeR false l := by
  rw [wholeV_eq]; unfold wholeD wholeR; rw [if_neg h, if_neg Bool.false_ne_true]
theorem wholeR_no {less : Bool} {d : List UInt8} (h : canonB d = true → (less = true ∧ d = [48]) ∨ 9223372036854775808 < decA 0 d ∨ (less = false ∧ 9223372036854775808 ≤ decA 0 d)) : wholeR less d = none := by
  unfold wholeR
  cases less with
  | true =>
    rw [if_pos rfl, if_neg]
    rintro ⟨h1, h2, h3⟩
    rcases h h1 with ⟨_, h4⟩ | h4 | ⟨h4, _⟩
    · exact h2 h4
    · omega
    · cases h4
  | false =>
    rw [if_neg Bool.false_ne_true, if_neg]
    rintro ⟨h1, h2⟩
    rcases h h1 with ⟨h4, _⟩ | h4 | ⟨_, h4⟩
    · cases h4
    · omega
    · omega
theorem wr_nil (less : Bool) : wholeR less [] = none := wholeR_no fun h => absurd rfl (canon_parts h).2.1
theorem wr_long {less : Bool} {d : List UInt8} (h : 19 < d.length) : wholeR less d = none := by
  refine wholeR_no fun hc => .inr (.inl ?_)
  obtain ⟨h1, h2, h3⟩ := canon_parts hc
  cases d with
  | nil => simp at h
  | cons x r =>
    rcases h3 with h3 | h3
    · rw [List.all_cons, Bool.and_eq_true] at h1
      have hx : 48 ≤ x.toNat ∧ x.toNat ≤ 57 := by simpa [digOk] using h1.1
      have hx48 : x.toNat ≠ 48 := fun e => h3 (by simp only [List.head?_cons, Option.some.injEq]; exact UInt8.toNat_inj.1 e)
      have h5 := decA_ge r (0 * 10 + (x.toNat - 48))
      have h6 : (10 : Nat) ^ 19 ≤ 10 ^ r.length := Nat.pow_le_pow_right (by omega) (by simp at h; omega)
      have h7 : 1 * 10 ^ r.length ≤ (0 * 10 + (x.toNat - 48)) * 10 ^ r.length := Nat.mul_le_mul_right _ (by omega)
      have h8 : decA 0 (x :: r) = decA (0 * 10 + (x.toNat - 48)) r := rfl
      have h9 : (10 : Nat) ^ 19 = 10000000000000000000 := by decide
      rw [h8]
      omega
    · rw [h3] at h; simp at h
theorem wr_zero {less : Bool} {d : List UInt8} (h0 : d.head? = some 48) (h : less = true ∨ 1 < d.length) : wholeR less d = none := by
  refine wholeR_no fun hc => ?_
  obtain ⟨h1, h2, h3⟩ := canon_parts hc
  rcases h3 with h3 | h3
  · exact absurd h0 h3
  · rcases h with h | h
    · exact .inl ⟨h, h3⟩
    · rw [h3] at h; simp at h
theorem wr_bad {less : Bool} {d : List UInt8} (c : UInt8) (hc : c ∈ d) (h : digOk c = false) : wholeR less d = none := by
  refine wholeR_no fun hcan => ?_
  have h1 := (canon_parts hcan).1
  rw [List.all_eq_true] at h1
  rw [h1 c hc] at h
  cases h
theorem decA_append (a b : List UInt8) : ∀ acc, decA acc (a ++ b) = decA (decA acc a) b := by
  induction a with
  | nil => intro acc; rfl
  | cons x r ih => intro acc; exact ih _
theorem wr_over {less : Bool} {d : List UInt8} (j : Nat) (h : 9223372036854775808 < decA 0 (d.take j)) : wholeR less d = none := by
  refine wholeR_no fun _ => .inr (.inl ?_)
  have := decA_append (d.take j) (d.drop j) 0
  rw [List.take_append_drop] at this
  have h2 := decA_le_self (d.drop j) (decA 0 (d.take j))
  omega
theorem wr_end {less : Bool} {d : List UInt8} (ha : d.all digOk = true) (h0 : d ≠ []) (hz : d.head? = some 48 → less = false ∧ d.length ≤ 1) (hle : decA 0 d ≤ 9223372036854775808) :
    wholeR less d = if less = true then some (-(decA 0 d : Int)) else if decA 0 d = 9223372036854775808 then none else some (decA 0 d : Int) := by
  have hd : d.head? ≠ some 48 ∨ d = [48] := by
    by_cases h : d.head? = some 48
    · right
      have := (hz h).2
      cases d with
      | nil => exact absurd rfl h0
      | cons x r =>
        simp only [List.head?_cons, Option.some.injEq] at h
        simp only [List.length_cons] at this
        have : r = [] := List.eq_nil_of_length_eq_zero (by omega)
        rw [h, this]
    · exact .inl h
  have hc := canon_of ha h0 hd
  unfold wholeR
  cases less with
  | true =>
    have hne : d ≠ [48] := fun e => by
      have := (hz (by rw [e]; rfl)).1
      cases this
    rw [if_pos rfl, if_pos rfl, if_pos ⟨hc, hne, hle⟩]
  | false =>
    rw [if_neg Bool.false_ne_true, if_neg Bool.false_ne_true]
    by_cases e : decA 0 d = 9223372036854775808
    · rw [if_pos e, if_neg (by omega)]
    · rw [if_neg e, if_pos ⟨hc, by omega⟩]

def wholeN (o : Option Int) : Int := o.getD 0
theorem tdiv_lo (c : Int) (h0 : 0 ≤ c) (h1 : c ≤ 9) (n : Int) : (n < Int.tdiv (-9223372036854775808 + c) 10) ↔ 10 * n - c < -9223372036854775808 := by
  have e : (-9223372036854775808 + c : Int) = -(9223372036854775808 - c) := by omega
  rw [e, Int.neg_tdiv, Int.tdiv_eq_ediv_of_nonneg (by omega)]
  omega
theorem dA_take (D : ByteArray) (j : Nat) (h : j < D.size) : decA 0 (D.data.toList.take (j + 1)) = decA 0 (D.data.toList.take j) * 10 + (D[j].toNat - 48) := by
  rw [List.take_succ_eq_append_getElem (by simpa using h), decA_snoc]
  rfl
theorem dA_all (D : ByteArray) (j : Nat) (h : j < D.size) (ha : (D.data.toList.take j).all digOk = true) (hc : digOk D[j] = true) : (D.data.toList.take (j + 1)).all digOk = true := by
  rw [List.take_succ_eq_append_getElem (by simpa using h), List.all_append, ha]
  simp
  exact hc
theorem head_at {t : ByteArray} (h : 0 < t.size) : t.data.toList.head? = some t[0] := by
  rw [List.head?_eq_getElem?, List.getElem?_eq_getElem (by rw [Array.length_toList]; exact h)]
  rfl
theorem data_nil {x : ByteArray} (h : x.size = 0) : x.data.toList = [] := List.eq_nil_of_length_eq_zero (by rw [Array.length_toList]; exact h)
theorem extract_tail (x : ByteArray) : (x.extract 1 x.size).data.toList = x.data.toList.tail := by
  rw [ByteArray.data_extract]
  simp only [Array.toList_extract, List.extract_eq_take_drop, List.drop_one]
  exact List.take_of_length_le (by simp)
abbrev RW (s : ByteArray) (w : World) (r : Option Int) : Prop := Calls Tryd.prog 45 #[.string s] w fun e w' => e = .returned (.tuple #[.int .i64 (wholeN r), .bool r.isSome]) ∧ Below w.heap.size w w'


set_option maxRecDepth 1000000 in
set_option maxHeartbeats 6400000 in
theorem whole_minus (s : ByteArray) (hs : s.size ≤ 140737488351232) (h0 : 0 < s.size) (hm : s[0].toNat = 45) (w : World) : RW s w (wholeR true s.data.toList.tail) := by
  have h1 : ((s[0].toNat : Int) == 45) = true := by rw [hm]; rfl
  have hD := extract_tail s
  obtain ⟨D, hDe⟩ : ∃ D, s.extract 1 s.size = D := ⟨_, rfl⟩
  rw [hDe] at hD
  rw [← hD]
  have hDz : D.size = s.size - 1 := by rw [← hDe, ByteArray.size_extract]; omega
  have hDs : D.size ≤ 140737488351232 := by omega
  have HDE := Lib.hid hDe
  have HDZ := Lib.hid hDz
  clear hD hDe hm hDz
  unfold RW
  by_cases e0 : D.size = 0
  · rw [data_nil e0, wr_nil]
    have g1 : ((D.size : Int) == 0) = true := by rw [e0]; rfl
    clear e0
    go_enter Tryd.func45, Tryd.ntmps45
    go_upto_region 5 with fail
    rw [HDE.out]
    go_wp2
    go_ret2
    exact ⟨rfl, by (repeat (first | exact Below.refl _ _ | (with_reducible assumption) | refine Below.drew ?_ | refine Below.drewN' ?_ _ | refine Below.alloc ?_ (by first | omega | (simp; done) | (simp; omega)) _ | refine Below.setCell ?_ (by first | omega | (simp; done) | (simp; omega)) _ | refine Below.then ?_ hb9 (by first | omega | (simp; done) | (simp; omega)) | refine Below.then ?_ hb8 (by first | omega | (simp; done) | (simp; omega)) | refine Below.then ?_ hb7 (by first | omega | (simp; done) | (simp; omega)) | refine Below.then ?_ hb6 (by first | omega | (simp; done) | (simp; omega)) | refine Below.then ?_ hb5 (by first | omega | (simp; done) | (simp; omega)) | refine Below.then ?_ hb4 (by first | omega | (simp; done) | (simp; omega)) | refine Below.then ?_ hb3 (by first | omega | (simp; done) | (simp; omega)) | refine Below.then ?_ hb2 (by first | omega | (simp; done) | (simp; omega)) | refine Below.then ?_ hb1 (by first | omega | (simp; done) | (simp; omega))))⟩
  · by_cases e1 : 19 < D.size
    · have HN := Lib.hid (wr_long (less := true) (d := D.data.toList) (by rw [Array.length_toList]; exact e1))
      have g1 : ((D.size : Int) == 0) = false := by rw [beq_eq_false_iff_ne]; omega
      have g2 : decide ((19 : Int) < D.size) = true := by rw [decide_eq_true_eq]; omega
      rw [HN.out]
      clear e1
      go_enter Tryd.func45, Tryd.ntmps45
      go_upto_region 5 with fail
      rw [HDE.out]
      go_wp2
      go_ret2
      exact ⟨rfl, by (repeat (first | exact Below.refl _ _ | (with_reducible assumption) | refine Below.drew ?_ | refine Below.drewN' ?_ _ | refine Below.alloc ?_ (by first | omega | (simp; done) | (simp; omega)) _ | refine Below.setCell ?_ (by first | omega | (simp; done) | (simp; omega)) _ | refine Below.then ?_ hb9 (by first | omega | (simp; done) | (simp; omega)) | refine Below.then ?_ hb8 (by first | omega | (simp; done) | (simp; omega)) | refine Below.then ?_ hb7 (by first | omega | (simp; done) | (simp; omega)) | refine Below.then ?_ hb6 (by first | omega | (simp; done) | (simp; omega)) | refine Below.then ?_ hb5 (by first | omega | (simp; done) | (simp; omega)) | refine Below.then ?_ hb4 (by first | omega | (simp; done) | (simp; omega)) | refine Below.then ?_ hb3 (by first | omega | (simp; done) | (simp; omega)) | refine Below.then ?_ hb2 (by first | omega | (simp; done) | (simp; omega)) | refine Below.then ?_ hb1 (by first | omega | (simp; done) | (simp; omega))))⟩
    · have g1 : ((D.size : Int) == 0) = false := by rw [beq_eq_false_iff_ne]; omega
      have g2 : decide ((19 : Int) < D.size) = false := by rw [decide_eq_false_iff_not]; omega
      have h0D : 0 < D.size := by omega
      have hh := head_at h0D
      have HNE := Lib.hid (show D.data.toList ≠ [] by intro e; rw [e] at hh; cases hh)
      by_cases e2 : D[0].toNat = 48
      · have g3 : ((D[0].toNat : Int) == 48) = true := by rw [e2]; rfl
        have hz : D.data.toList.head? = some 48 := by rw [hh]; congr 1; exact UInt8.toNat_inj.1 e2
        have HN := Lib.hid (wr_zero (less := true) hz (.inl rfl))
        rw [HN.out]
        clear hh hz e2 e1 HNE
        go_enter Tryd.func45, Tryd.ntmps45
        go_upto_region 5 with fail
        rw [HDE.out]
        go_wp2
        go_ret2
        exact ⟨rfl, by (repeat (first | exact Below.refl _ _ | (with_reducible assumption) | refine Below.drew ?_ | refine Below.drewN' ?_ _ | refine Below.alloc ?_ (by first | omega | (simp; done) | (simp; omega)) _ | refine Below.setCell ?_ (by first | omega | (simp; done) | (simp; omega)) _ | refine Below.then ?_ hb9 (by first | omega | (simp; done) | (simp; omega)) | refine Below.then ?_ hb8 (by first | omega | (simp; done) | (simp; omega)) | refine Below.then ?_ hb7 (by first | omega | (simp; done) | (simp; omega)) | refine Below.then ?_ hb6 (by first | omega | (simp; done) | (simp; omega)) | refine Below.then ?_ hb5 (by first | omega | (simp; done) | (simp; omega)) | refine Below.then ?_ hb4 (by first | omega | (simp; done) | (simp; omega)) | refine Below.then ?_ hb3 (by first | omega | (simp; done) | (simp; omega)) | refine Below.then ?_ hb2 (by first | omega | (simp; done) | (simp; omega)) | refine Below.then ?_ hb1 (by first | omega | (simp; done) | (simp; omega))))⟩
      · have g3 : ((D[0].toNat : Int) == 48) = false := by rw [beq_eq_false_iff_ne]; omega
        have HZ := Lib.hid (show D.data.toList.head? ≠ some 48 from fun h => by
          rw [hh] at h
          have : D[0] = 48 := Option.some.inj h
          rw [this] at e2
          exact absurd rfl e2)
        clear hh e2 e1
        go_enter Tryd.func45, Tryd.ntmps45
        go_upto_region 5 with fail
        rw [HDE.out]
        go_wp2_with fail
        go_loop [6, 7] (fun n i => ∃ j : Nat, j ≤ D.size ∧ i = .int .i64 j ∧ n = .int .i64 (-(decA 0 (D.data.toList.take j) : Int)) ∧ Hid ((D.data.toList.take j).all digOk = true) ∧ decA 0 (D.data.toList.take j) ≤ 9223372036854775808) (fun _ i => D.size - (intOf i).toNat)
        case atStart => exact ⟨0, Nat.zero_le _, rfl, rfl, Lib.hid (by simp), Nat.zero_le 9223372036854775808⟩
        case round =>
          obtain ⟨j, hj, rfl, rfl, hall, hle⟩ := hrel
          by_cases hlt : j < D.size
          · have HT := Lib.hid (dA_take D j hlt)
            by_cases hd : digOk D[j] = true
            · have hb : 48 ≤ D[j].toNat ∧ D[j].toNat ≤ 57 := by simpa [digOk] using hd
              have HA := Lib.hid (dA_all D j hlt hall.out hd)
              obtain ⟨hb0, hb1⟩ := hb
              obtain ⟨a, ha⟩ : ∃ a, decA 0 (D.data.toList.take j) = a := ⟨_, rfl⟩
              rw [ha] at HT hle ⊢
              have htd := tdiv_lo ((D[j].toNat : Int) - 48) (by omega) (by omega) (-(a : Int))
              by_cases hov : 9223372036854775808 < decA 0 (D.data.toList.take (j + 1))
              · have HN := Lib.hid (wr_over (less := true) (j + 1) hov)
                have hv : (-(a : Int)) < Int.tdiv (-9223372036854775808 + ((D[j].toNat : Int) - 48)) 10 := by rw [htd]; have := HT.out; omega
                clear htd hov hd ha hall
                go_wp2
                go_ret2
                exact ⟨by rw [HN.out]; rfl, by (repeat (first | exact Below.refl _ _ | (with_reducible assumption) | refine Below.drew ?_ | refine Below.drewN' ?_ _ | refine Below.alloc ?_ (by first | omega | (simp; done) | (simp; omega)) _ | refine Below.setCell ?_ (by first | omega | (simp; done) | (simp; omega)) _ | refine Below.then ?_ hb9 (by first | omega | (simp; done) | (simp; omega)) | refine Below.then ?_ hb8 (by first | omega | (simp; done) | (simp; omega)) | refine Below.then ?_ hb7 (by first | omega | (simp; done) | (simp; omega)) | refine Below.then ?_ hb6 (by first | omega | (simp; done) | (simp; omega)) | refine Below.then ?_ hb5 (by first | omega | (simp; done) | (simp; omega)) | refine Below.then ?_ hb4 (by first | omega | (simp; done) | (simp; omega)) | refine Below.then ?_ hb3 (by first | omega | (simp; done) | (simp; omega)) | refine Below.then ?_ hb2 (by first | omega | (simp; done) | (simp; omega)) | refine Below.then ?_ hb1 (by first | omega | (simp; done) | (simp; omega))))⟩
              · have hv : ¬ (-(a : Int)) < Int.tdiv (-9223372036854775808 + ((D[j].toNat : Int) - 48)) 10 := by rw [htd]; have := HT.out; omega
                clear htd hd ha hall
                have HO := Lib.hid hov
                have k1 : -9223372036854775808 ≤ 10 * -(a : Int) := by have := HT.out; omega
                have k2 : 10 * -(a : Int) ≤ 9223372036854775807 := by omega
                have k3 : -9223372036854775808 ≤ 10 * -(a : Int) - ((D[j].toNat : Int) - 48) := by have := HT.out; omega
                clear hov
                go_wp2
                go_round
                case rel => exact ⟨j + 1, by omega, by go_num, by rw [HT.out]; congr 1; omega, HA, by have := HO.out; omega⟩
                case measure => simp [intOf]; omega
            · have hd' : digOk D[j] = false := Bool.eq_false_iff.2 hd
              have HN := Lib.hid (wr_bad (less := true) (d := D.data.toList) D[j] (by show D.data[j] ∈ _; simp) hd')
              have hb : D[j].toNat < 48 ∨ 57 < D[j].toNat := by
                have : ¬ (48 ≤ D[j].toNat ∧ D[j].toNat ≤ 57) := by simpa [digOk] using hd
                omega
              clear hd hd' hall HT
              rcases hb with hb | hb
              · go_wp2
                go_ret2
                exact ⟨by rw [HN.out]; rfl, by (repeat (first | exact Below.refl _ _ | (with_reducible assumption) | refine Below.drew ?_ | refine Below.drewN' ?_ _ | refine Below.alloc ?_ (by first | omega | (simp; done) | (simp; omega)) _ | refine Below.setCell ?_ (by first | omega | (simp; done) | (simp; omega)) _ | refine Below.then ?_ hb9 (by first | omega | (simp; done) | (simp; omega)) | refine Below.then ?_ hb8 (by first | omega | (simp; done) | (simp; omega)) | refine Below.then ?_ hb7 (by first | omega | (simp; done) | (simp; omega)) | refine Below.then ?_ hb6 (by first | omega | (simp; done) | (simp; omega)) | refine Below.then ?_ hb5 (by first | omega | (simp; done) | (simp; omega)) | refine Below.then ?_ hb4 (by first | omega | (simp; done) | (simp; omega)) | refine Below.then ?_ hb3 (by first | omega | (simp; done) | (simp; omega)) | refine Below.then ?_ hb2 (by first | omega | (simp; done) | (simp; omega)) | refine Below.then ?_ hb1 (by first | omega | (simp; done) | (simp; omega))))⟩
              · have hb' : ¬ D[j].toNat < 48 := by omega
                go_wp2
                go_ret2
                exact ⟨by rw [HN.out]; rfl, by (repeat (first | exact Below.refl _ _ | (with_reducible assumption) | refine Below.drew ?_ | refine Below.drewN' ?_ _ | refine Below.alloc ?_ (by first | omega | (simp; done) | (simp; omega)) _ | refine Below.setCell ?_ (by first | omega | (simp; done) | (simp; omega)) _ | refine Below.then ?_ hb9 (by first | omega | (simp; done) | (simp; omega)) | refine Below.then ?_ hb8 (by first | omega | (simp; done) | (simp; omega)) | refine Below.then ?_ hb7 (by first | omega | (simp; done) | (simp; omega)) | refine Below.then ?_ hb6 (by first | omega | (simp; done) | (simp; omega)) | refine Below.then ?_ hb5 (by first | omega | (simp; done) | (simp; omega)) | refine Below.then ?_ hb4 (by first | omega | (simp; done) | (simp; omega)) | refine Below.then ?_ hb3 (by first | omega | (simp; done) | (simp; omega)) | refine Below.then ?_ hb2 (by first | omega | (simp; done) | (simp; omega)) | refine Below.then ?_ hb1 (by first | omega | (simp; done) | (simp; omega))))⟩
          · obtain rfl : j = D.size := by omega
            have htk : D.data.toList.take D.size = D.data.toList := List.take_of_length_le (by simp)
            rw [htk] at hall hle ⊢
            have hw := wr_end (less := true) hall.out HNE.out (fun h => absurd h HZ.out) hle
            obtain ⟨a, ha⟩ : ∃ a, decA 0 D.data.toList = a := ⟨_, rfl⟩
            rw [ha] at hw hle ⊢
            clear ha hall hlt htk
            rw [if_pos rfl] at hw
            have HW := Lib.hid hw
            clear hw
            go_wp2
            go_ret2
            exact ⟨by rw [HW.out]; rfl, by (repeat (first | exact Below.refl _ _ | (with_reducible assumption) | refine Below.drew ?_ | refine Below.drewN' ?_ _ | refine Below.alloc ?_ (by first | omega | (simp; done) | (simp; omega)) _ | refine Below.setCell ?_ (by first | omega | (simp; done) | (simp; omega)) _ | refine Below.then ?_ hb9 (by first | omega | (simp; done) | (simp; omega)) | refine Below.then ?_ hb8 (by first | omega | (simp; done) | (simp; omega)) | refine Below.then ?_ hb7 (by first | omega | (simp; done) | (simp; omega)) | refine Below.then ?_ hb6 (by first | omega | (simp; done) | (simp; omega)) | refine Below.then ?_ hb5 (by first | omega | (simp; done) | (simp; omega)) | refine Below.then ?_ hb4 (by first | omega | (simp; done) | (simp; omega)) | refine Below.then ?_ hb3 (by first | omega | (simp; done) | (simp; omega)) | refine Below.then ?_ hb2 (by first | omega | (simp; done) | (simp; omega)) | refine Below.then ?_ hb1 (by first | omega | (simp; done) | (simp; omega))))⟩

set_option maxRecDepth 1000000 in
set_option maxHeartbeats 6400000 in
theorem whole_none (D : ByteArray) (h0 : D.size = 0) (w : World) : RW D w (wholeR false D.data.toList) := by
  rw [data_nil h0, wr_nil]
  have HZ := Lib.hid h0
  have hz : ¬ 0 < D.size := by omega
  have g0 : decide ((0 : Int) < D.size) = false := by rw [h0]; rfl
  have g1 : ((D.size : Int) == 0) = true := by rw [h0]; rfl
  clear h0
  unfold RW
  go_enter Tryd.func45, Tryd.ntmps45
  go_wp2
  go_ret2
  exact ⟨rfl, by (repeat (first | exact Below.refl _ _ | (with_reducible assumption) | refine Below.drew ?_ | refine Below.drewN' ?_ _ | refine Below.alloc ?_ (by first | omega | (simp; done) | (simp; omega)) _ | refine Below.setCell ?_ (by first | omega | (simp; done) | (simp; omega)) _ | refine Below.then ?_ hb9 (by first | omega | (simp; done) | (simp; omega)) | refine Below.then ?_ hb8 (by first | omega | (simp; done) | (simp; omega)) | refine Below.then ?_ hb7 (by first | omega | (simp; done) | (simp; omega)) | refine Below.then ?_ hb6 (by first | omega | (simp; done) | (simp; omega)) | refine Below.then ?_ hb5 (by first | omega | (simp; done) | (simp; omega)) | refine Below.then ?_ hb4 (by first | omega | (simp; done) | (simp; omega)) | refine Below.then ?_ hb3 (by first | omega | (simp; done) | (simp; omega)) | refine Below.then ?_ hb2 (by first | omega | (simp; done) | (simp; omega)) | refine Below.then ?_ hb1 (by first | omega | (simp; done) | (simp; omega))))⟩

set_option maxRecDepth 1000000 in
set_option maxHeartbeats 6400000 in
theorem whole_plain (D : ByteArray) (hDs : D.size ≤ 140737488351232) (e0 : 0 < D.size) (hm : ¬ D[0].toNat = 45) (w : World) : RW D w (wholeR false D.data.toList) := by
  have h1 : ((D[0].toNat : Int) == 45) = false := by rw [beq_eq_false_iff_ne]; omega
  clear hm
  unfold RW
  by_cases e1 : 19 < D.size
  · have HN := Lib.hid (wr_long (less := false) (d := D.data.toList) (by rw [Array.length_toList]; exact e1))
    have g1 : ((D.size : Int) == 0) = false := by rw [beq_eq_false_iff_ne]; omega
    have g2 : decide ((19 : Int) < D.size) = true := by rw [decide_eq_true_eq]; omega
    rw [HN.out]
    clear e1
    go_enter Tryd.func45, Tryd.ntmps45
    go_wp2
    go_ret2
    exact ⟨rfl, by (repeat (first | exact Below.refl _ _ | (with_reducible assumption) | refine Below.drew ?_ | refine Below.drewN' ?_ _ | refine Below.alloc ?_ (by first | omega | (simp; done) | (simp; omega)) _ | refine Below.setCell ?_ (by first | omega | (simp; done) | (simp; omega)) _ | refine Below.then ?_ hb9 (by first | omega | (simp; done) | (simp; omega)) | refine Below.then ?_ hb8 (by first | omega | (simp; done) | (simp; omega)) | refine Below.then ?_ hb7 (by first | omega | (simp; done) | (simp; omega)) | refine Below.then ?_ hb6 (by first | omega | (simp; done) | (simp; omega)) | refine Below.then ?_ hb5 (by first | omega | (simp; done) | (simp; omega)) | refine Below.then ?_ hb4 (by first | omega | (simp; done) | (simp; omega)) | refine Below.then ?_ hb3 (by first | omega | (simp; done) | (simp; omega)) | refine Below.then ?_ hb2 (by first | omega | (simp; done) | (simp; omega)) | refine Below.then ?_ hb1 (by first | omega | (simp; done) | (simp; omega))))⟩
  · have g1 : ((D.size : Int) == 0) = false := by rw [beq_eq_false_iff_ne]; omega
    have g2 : decide ((19 : Int) < D.size) = false := by rw [decide_eq_false_iff_not]; omega
    have h0D : 0 < D.size := by omega
    have hh := head_at h0D
    have HNE := Lib.hid (show D.data.toList ≠ [] by intro e; rw [e] at hh; cases hh)
    by_cases e2 : D[0].toNat = 48
    · have g3 : ((D[0].toNat : Int) == 48) = true := by rw [e2]; rfl
      have hz : D.data.toList.head? = some 48 := by rw [hh]; congr 1; exact UInt8.toNat_inj.1 e2
      by_cases e3 : 1 < D.size
      · have g4 : decide ((1 : Int) < D.size) = true := by rw [decide_eq_true_eq]; omega
        have HN := Lib.hid (wr_zero (less := false) hz (.inr (by rw [Array.length_toList]; exact e3)))
        rw [HN.out]
        clear hh hz e2 e1 HNE e3
        go_enter Tryd.func45, Tryd.ntmps45
        go_wp2
        go_ret2
        exact ⟨rfl, by (repeat (first | exact Below.refl _ _ | (with_reducible assumption) | refine Below.drew ?_ | refine Below.drewN' ?_ _ | refine Below.alloc ?_ (by first | omega | (simp; done) | (simp; omega)) _ | refine Below.setCell ?_ (by first | omega | (simp; done) | (simp; omega)) _ | refine Below.then ?_ hb9 (by first | omega | (simp; done) | (simp; omega)) | refine Below.then ?_ hb8 (by first | omega | (simp; done) | (simp; omega)) | refine Below.then ?_ hb7 (by first | omega | (simp; done) | (simp; omega)) | refine Below.then ?_ hb6 (by first | omega | (simp; done) | (simp; omega)) | refine Below.then ?_ hb5 (by first | omega | (simp; done) | (simp; omega)) | refine Below.then ?_ hb4 (by first | omega | (simp; done) | (simp; omega)) | refine Below.then ?_ hb3 (by first | omega | (simp; done) | (simp; omega)) | refine Below.then ?_ hb2 (by first | omega | (simp; done) | (simp; omega)) | refine Below.then ?_ hb1 (by first | omega | (simp; done) | (simp; omega))))⟩
      · have g4 : decide ((1 : Int) < D.size) = false := by rw [decide_eq_false_iff_not]; omega
        have HZ := Lib.hid (show D.data.toList.head? = some 48 → D.data.toList.length ≤ 1 from fun _ => by rw [Array.length_toList]; show D.size ≤ 1; omega)
        clear hh hz e2 e1 e3
        go_enter Tryd.func45, Tryd.ntmps45
        go_wp2_with fail
        go_loop [6, 7] (fun n i => ∃ j : Nat, j ≤ D.size ∧ i = .int .i64 j ∧ n = .int .i64 (-(decA 0 (D.data.toList.take j) : Int)) ∧ Hid ((D.data.toList.take j).all digOk = true) ∧ decA 0 (D.data.toList.take j) ≤ 9223372036854775808) (fun _ i => D.size - (intOf i).toNat)
        case atStart => exact ⟨0, Nat.zero_le _, rfl, rfl, Lib.hid (by simp), Nat.zero_le 9223372036854775808⟩
        case round =>
          obtain ⟨j, hj, rfl, rfl, hall, hle⟩ := hrel
          by_cases hlt : j < D.size
          · have HT := Lib.hid (dA_take D j hlt)
            by_cases hd : digOk D[j] = true
            · have hb : 48 ≤ D[j].toNat ∧ D[j].toNat ≤ 57 := by simpa [digOk] using hd
              have HA := Lib.hid (dA_all D j hlt hall.out hd)
              obtain ⟨hb0, hb1⟩ := hb
              obtain ⟨a, ha⟩ : ∃ a, decA 0 (D.data.toList.take j) = a := ⟨_, rfl⟩
              rw [ha] at HT hle ⊢
              have htd := tdiv_lo ((D[j].toNat : Int) - 48) (by omega) (by omega) (-(a : Int))
              by_cases hov : 9223372036854775808 < decA 0 (D.data.toList.take (j + 1))
              · have HN := Lib.hid (wr_over (less := false) (j + 1) hov)
                have hv : (-(a : Int)) < Int.tdiv (-9223372036854775808 + ((D[j].toNat : Int) - 48)) 10 := by rw [htd]; have := HT.out; omega
                clear htd hov hd ha hall
                go_wp2
                go_ret2
                exact ⟨by rw [HN.out]; rfl, by (repeat (first | exact Below.refl _ _ | (with_reducible assumption) | refine Below.drew ?_ | refine Below.drewN' ?_ _ | refine Below.alloc ?_ (by first | omega | (simp; done) | (simp; omega)) _ | refine Below.setCell ?_ (by first | omega | (simp; done) | (simp; omega)) _ | refine Below.then ?_ hb9 (by first | omega | (simp; done) | (simp; omega)) | refine Below.then ?_ hb8 (by first | omega | (simp; done) | (simp; omega)) | refine Below.then ?_ hb7 (by first | omega | (simp; done) | (simp; omega)) | refine Below.then ?_ hb6 (by first | omega | (simp; done) | (simp; omega)) | refine Below.then ?_ hb5 (by first | omega | (simp; done) | (simp; omega)) | refine Below.then ?_ hb4 (by first | omega | (simp; done) | (simp; omega)) | refine Below.then ?_ hb3 (by first | omega | (simp; done) | (simp; omega)) | refine Below.then ?_ hb2 (by first | omega | (simp; done) | (simp; omega)) | refine Below.then ?_ hb1 (by first | omega | (simp; done) | (simp; omega))))⟩
              · have hv : ¬ (-(a : Int)) < Int.tdiv (-9223372036854775808 + ((D[j].toNat : Int) - 48)) 10 := by rw [htd]; have := HT.out; omega
                clear htd hd ha hall
                have HO := Lib.hid hov
                have k1 : -9223372036854775808 ≤ 10 * -(a : Int) := by have := HT.out; omega
                have k2 : 10 * -(a : Int) ≤ 9223372036854775807 := by omega
                have k3 : -9223372036854775808 ≤ 10 * -(a : Int) - ((D[j].toNat : Int) - 48) := by have := HT.out; omega
                clear hov
                go_wp2
                go_round
                case rel => exact ⟨j + 1, by omega, by go_num, by rw [HT.out]; congr 1; omega, HA, by have := HO.out; omega⟩
                case measure => simp [intOf]; omega
            · have hd' : digOk D[j] = false := Bool.eq_false_iff.2 hd
              have HN := Lib.hid (wr_bad (less := false) (d := D.data.toList) D[j] (by show D.data[j] ∈ _; simp) hd')
              have hb : D[j].toNat < 48 ∨ 57 < D[j].toNat := by
                have : ¬ (48 ≤ D[j].toNat ∧ D[j].toNat ≤ 57) := by simpa [digOk] using hd
                omega
              clear hd hd' hall HT
              rcases hb with hb | hb
              · go_wp2
                go_ret2
                exact ⟨by rw [HN.out]; rfl, by (repeat (first | exact Below.refl _ _ | (with_reducible assumption) | refine Below.drew ?_ | refine Below.drewN' ?_ _ | refine Below.alloc ?_ (by first | omega | (simp; done) | (simp; omega)) _ | refine Below.setCell ?_ (by first | omega | (simp; done) | (simp; omega)) _ | refine Below.then ?_ hb9 (by first | omega | (simp; done) | (simp; omega)) | refine Below.then ?_ hb8 (by first | omega | (simp; done) | (simp; omega)) | refine Below.then ?_ hb7 (by first | omega | (simp; done) | (simp; omega)) | refine Below.then ?_ hb6 (by first | omega | (simp; done) | (simp; omega)) | refine Below.then ?_ hb5 (by first | omega | (simp; done) | (simp; omega)) | refine Below.then ?_ hb4 (by first | omega | (simp; done) | (simp; omega)) | refine Below.then ?_ hb3 (by first | omega | (simp; done) | (simp; omega)) | refine Below.then ?_ hb2 (by first | omega | (simp; done) | (simp; omega)) | refine Below.then ?_ hb1 (by first | omega | (simp; done) | (simp; omega))))⟩
              · have hb' : ¬ D[j].toNat < 48 := by omega
                go_wp2
                go_ret2
                exact ⟨by rw [HN.out]; rfl, by (repeat (first | exact Below.refl _ _ | (with_reducible assumption) | refine Below.drew ?_ | refine Below.drewN' ?_ _ | refine Below.alloc ?_ (by first | omega | (simp; done) | (simp; omega)) _ | refine Below.setCell ?_ (by first | omega | (simp; done) | (simp; omega)) _ | refine Below.then ?_ hb9 (by first | omega | (simp; done) | (simp; omega)) | refine Below.then ?_ hb8 (by first | omega | (simp; done) | (simp; omega)) | refine Below.then ?_ hb7 (by first | omega | (simp; done) | (simp; omega)) | refine Below.then ?_ hb6 (by first | omega | (simp; done) | (simp; omega)) | refine Below.then ?_ hb5 (by first | omega | (simp; done) | (simp; omega)) | refine Below.then ?_ hb4 (by first | omega | (simp; done) | (simp; omega)) | refine Below.then ?_ hb3 (by first | omega | (simp; done) | (simp; omega)) | refine Below.then ?_ hb2 (by first | omega | (simp; done) | (simp; omega)) | refine Below.then ?_ hb1 (by first | omega | (simp; done) | (simp; omega))))⟩
          · obtain rfl : j = D.size := by omega
            have htk : D.data.toList.take D.size = D.data.toList := List.take_of_length_le (by simp)
            rw [htk] at hall hle ⊢
            have hw := wr_end (less := false) hall.out HNE.out (fun h => ⟨rfl, HZ.out h⟩) hle
            obtain ⟨a, ha⟩ : ∃ a, decA 0 D.data.toList = a := ⟨_, rfl⟩
            rw [ha] at hw hle ⊢
            clear ha hall hlt htk
            by_cases hm : a = 9223372036854775808
            · have hv : ((-(a : Int)) == -9223372036854775808) = true := by rw [hm]; rfl
              rw [if_neg Bool.false_ne_true, if_pos hm] at hw
              have HW := Lib.hid hw
              clear hm hw
              go_wp2
              go_ret2
              exact ⟨by rw [HW.out]; rfl, by (repeat (first | exact Below.refl _ _ | (with_reducible assumption) | refine Below.drew ?_ | refine Below.drewN' ?_ _ | refine Below.alloc ?_ (by first | omega | (simp; done) | (simp; omega)) _ | refine Below.setCell ?_ (by first | omega | (simp; done) | (simp; omega)) _ | refine Below.then ?_ hb9 (by first | omega | (simp; done) | (simp; omega)) | refine Below.then ?_ hb8 (by first | omega | (simp; done) | (simp; omega)) | refine Below.then ?_ hb7 (by first | omega | (simp; done) | (simp; omega)) | refine Below.then ?_ hb6 (by first | omega | (simp; done) | (simp; omega)) | refine Below.then ?_ hb5 (by first | omega | (simp; done) | (simp; omega)) | refine Below.then ?_ hb4 (by first | omega | (simp; done) | (simp; omega)) | refine Below.then ?_ hb3 (by first | omega | (simp; done) | (simp; omega)) | refine Below.then ?_ hb2 (by first | omega | (simp; done) | (simp; omega)) | refine Below.then ?_ hb1 (by first | omega | (simp; done) | (simp; omega))))⟩
            · have hv : ((-(a : Int)) == -9223372036854775808) = false := by rw [beq_eq_false_iff_ne]; omega
              have hlo : a < 9223372036854775808 := by omega
              rw [if_neg Bool.false_ne_true, if_neg hm] at hw
              have HW := Lib.hid hw
              clear hm hw
              go_wp2
              go_ret2
              exact ⟨by rw [HW.out]; simp [wholeN], by (repeat (first | exact Below.refl _ _ | (with_reducible assumption) | refine Below.drew ?_ | refine Below.drewN' ?_ _ | refine Below.alloc ?_ (by first | omega | (simp; done) | (simp; omega)) _ | refine Below.setCell ?_ (by first | omega | (simp; done) | (simp; omega)) _ | refine Below.then ?_ hb9 (by first | omega | (simp; done) | (simp; omega)) | refine Below.then ?_ hb8 (by first | omega | (simp; done) | (simp; omega)) | refine Below.then ?_ hb7 (by first | omega | (simp; done) | (simp; omega)) | refine Below.then ?_ hb6 (by first | omega | (simp; done) | (simp; omega)) | refine Below.then ?_ hb5 (by first | omega | (simp; done) | (simp; omega)) | refine Below.then ?_ hb4 (by first | omega | (simp; done) | (simp; omega)) | refine Below.then ?_ hb3 (by first | omega | (simp; done) | (simp; omega)) | refine Below.then ?_ hb2 (by first | omega | (simp; done) | (simp; omega)) | refine Below.then ?_ hb1 (by first | omega | (simp; done) | (simp; omega))))⟩
    · have g3 : ((D[0].toNat : Int) == 48) = false := by rw [beq_eq_false_iff_ne]; omega
      have HZ := Lib.hid (show D.data.toList.head? = some 48 → D.data.toList.length ≤ 1 from fun h => by
        rw [hh] at h
        have : D[0] = 48 := Option.some.inj h
        rw [this] at e2
        exact absurd rfl e2)
      clear hh e2 e1
      go_enter Tryd.func45, Tryd.ntmps45
      go_wp2_with fail
      go_loop [6, 7] (fun n i => ∃ j : Nat, j ≤ D.size ∧ i = .int .i64 j ∧ n = .int .i64 (-(decA 0 (D.data.toList.take j) : Int)) ∧ Hid ((D.data.toList.take j).all digOk = true) ∧ decA 0 (D.data.toList.take j) ≤ 9223372036854775808) (fun _ i => D.size - (intOf i).toNat)
      case atStart => exact ⟨0, Nat.zero_le _, rfl, rfl, Lib.hid (by simp), Nat.zero_le 9223372036854775808⟩
      case round =>
        obtain ⟨j, hj, rfl, rfl, hall, hle⟩ := hrel
        by_cases hlt : j < D.size
        · have HT := Lib.hid (dA_take D j hlt)
          by_cases hd : digOk D[j] = true
          · have hb : 48 ≤ D[j].toNat ∧ D[j].toNat ≤ 57 := by simpa [digOk] using hd
            have HA := Lib.hid (dA_all D j hlt hall.out hd)
            obtain ⟨hb0, hb1⟩ := hb
            obtain ⟨a, ha⟩ : ∃ a, decA 0 (D.data.toList.take j) = a := ⟨_, rfl⟩
            rw [ha] at HT hle ⊢
            have htd := tdiv_lo ((D[j].toNat : Int) - 48) (by omega) (by omega) (-(a : Int))
            by_cases hov : 9223372036854775808 < decA 0 (D.data.toList.take (j + 1))
            · have HN := Lib.hid (wr_over (less := false) (j + 1) hov)
              have hv : (-(a : Int)) < Int.tdiv (-9223372036854775808 + ((D[j].toNat : Int) - 48)) 10 := by rw [htd]; have := HT.out; omega
              clear htd hov hd ha hall
              go_wp2
              go_ret2
              exact ⟨by rw [HN.out]; rfl, by (repeat (first | exact Below.refl _ _ | (with_reducible assumption) | refine Below.drew ?_ | refine Below.drewN' ?_ _ | refine Below.alloc ?_ (by first | omega | (simp; done) | (simp; omega)) _ | refine Below.setCell ?_ (by first | omega | (simp; done) | (simp; omega)) _ | refine Below.then ?_ hb9 (by first | omega | (simp; done) | (simp; omega)) | refine Below.then ?_ hb8 (by first | omega | (simp; done) | (simp; omega)) | refine Below.then ?_ hb7 (by first | omega | (simp; done) | (simp; omega)) | refine Below.then ?_ hb6 (by first | omega | (simp; done) | (simp; omega)) | refine Below.then ?_ hb5 (by first | omega | (simp; done) | (simp; omega)) | refine Below.then ?_ hb4 (by first | omega | (simp; done) | (simp; omega)) | refine Below.then ?_ hb3 (by first | omega | (simp; done) | (simp; omega)) | refine Below.then ?_ hb2 (by first | omega | (simp; done) | (simp; omega)) | refine Below.then ?_ hb1 (by first | omega | (simp; done) | (simp; omega))))⟩
            · have hv : ¬ (-(a : Int)) < Int.tdiv (-9223372036854775808 + ((D[j].toNat : Int) - 48)) 10 := by rw [htd]; have := HT.out; omega
              clear htd hd ha hall
              have HO := Lib.hid hov
              have k1 : -9223372036854775808 ≤ 10 * -(a : Int) := by have := HT.out; omega
              have k2 : 10 * -(a : Int) ≤ 9223372036854775807 := by omega
              have k3 : -9223372036854775808 ≤ 10 * -(a : Int) - ((D[j].toNat : Int) - 48) := by have := HT.out; omega
              clear hov
              go_wp2
              go_round
              case rel => exact ⟨j + 1, by omega, by go_num, by rw [HT.out]; congr 1; omega, HA, by have := HO.out; omega⟩
              case measure => simp [intOf]; omega
          · have hd' : digOk D[j] = false := Bool.eq_false_iff.2 hd
            have HN := Lib.hid (wr_bad (less := false) (d := D.data.toList) D[j] (by show D.data[j] ∈ _; simp) hd')
            have hb : D[j].toNat < 48 ∨ 57 < D[j].toNat := by
              have : ¬ (48 ≤ D[j].toNat ∧ D[j].toNat ≤ 57) := by simpa [digOk] using hd
              omega
            clear hd hd' hall HT
            rcases hb with hb | hb
            · go_wp2
              go_ret2
              exact ⟨by rw [HN.out]; rfl, by (repeat (first | exact Below.refl _ _ | (with_reducible assumption) | refine Below.drew ?_ | refine Below.drewN' ?_ _ | refine Below.alloc ?_ (by first | omega | (simp; done) | (simp; omega)) _ | refine Below.setCell ?_ (by first | omega | (simp; done) | (simp; omega)) _ | refine Below.then ?_ hb9 (by first | omega | (simp; done) | (simp; omega)) | refine Below.then ?_ hb8 (by first | omega | (simp; done) | (simp; omega)) | refine Below.then ?_ hb7 (by first | omega | (simp; done) | (simp; omega)) | refine Below.then ?_ hb6 (by first | omega | (simp; done) | (simp; omega)) | refine Below.then ?_ hb5 (by first | omega | (simp; done) | (simp; omega)) | refine Below.then ?_ hb4 (by first | omega | (simp; done) | (simp; omega)) | refine Below.then ?_ hb3 (by first | omega | (simp; done) | (simp; omega)) | refine Below.then ?_ hb2 (by first | omega | (simp; done) | (simp; omega)) | refine Below.then ?_ hb1 (by first | omega | (simp; done) | (simp; omega))))⟩
            · have hb' : ¬ D[j].toNat < 48 := by omega
              go_wp2
              go_ret2
              exact ⟨by rw [HN.out]; rfl, by (repeat (first | exact Below.refl _ _ | (with_reducible assumption) | refine Below.drew ?_ | refine Below.drewN' ?_ _ | refine Below.alloc ?_ (by first | omega | (simp; done) | (simp; omega)) _ | refine Below.setCell ?_ (by first | omega | (simp; done) | (simp; omega)) _ | refine Below.then ?_ hb9 (by first | omega | (simp; done) | (simp; omega)) | refine Below.then ?_ hb8 (by first | omega | (simp; done) | (simp; omega)) | refine Below.then ?_ hb7 (by first | omega | (simp; done) | (simp; omega)) | refine Below.then ?_ hb6 (by first | omega | (simp; done) | (simp; omega)) | refine Below.then ?_ hb5 (by first | omega | (simp; done) | (simp; omega)) | refine Below.then ?_ hb4 (by first | omega | (simp; done) | (simp; omega)) | refine Below.then ?_ hb3 (by first | omega | (simp; done) | (simp; omega)) | refine Below.then ?_ hb2 (by first | omega | (simp; done) | (simp; omega)) | refine Below.then ?_ hb1 (by first | omega | (simp; done) | (simp; omega))))⟩
        · obtain rfl : j = D.size := by omega
          have htk : D.data.toList.take D.size = D.data.toList := List.take_of_length_le (by simp)
          rw [htk] at hall hle ⊢
          have hw := wr_end (less := false) hall.out HNE.out (fun h => ⟨rfl, HZ.out h⟩) hle
          obtain ⟨a, ha⟩ : ∃ a, decA 0 D.data.toList = a := ⟨_, rfl⟩
          rw [ha] at hw hle ⊢
          clear ha hall hlt htk
          by_cases hm : a = 9223372036854775808
          · have hv : ((-(a : Int)) == -9223372036854775808) = true := by rw [hm]; rfl
            rw [if_neg Bool.false_ne_true, if_pos hm] at hw
            have HW := Lib.hid hw
            clear hm hw
            go_wp2
            go_ret2
            exact ⟨by rw [HW.out]; rfl, by (repeat (first | exact Below.refl _ _ | (with_reducible assumption) | refine Below.drew ?_ | refine Below.drewN' ?_ _ | refine Below.alloc ?_ (by first | omega | (simp; done) | (simp; omega)) _ | refine Below.setCell ?_ (by first | omega | (simp; done) | (simp; omega)) _ | refine Below.then ?_ hb9 (by first | omega | (simp; done) | (simp; omega)) | refine Below.then ?_ hb8 (by first | omega | (simp; done) | (simp; omega)) | refine Below.then ?_ hb7 (by first | omega | (simp; done) | (simp; omega)) | refine Below.then ?_ hb6 (by first | omega | (simp; done) | (simp; omega)) | refine Below.then ?_ hb5 (by first | omega | (simp; done) | (simp; omega)) | refine Below.then ?_ hb4 (by first | omega | (simp; done) | (simp; omega)) | refine Below.then ?_ hb3 (by first | omega | (simp; done) | (simp; omega)) | refine Below.then ?_ hb2 (by first | omega | (simp; done) | (simp; omega)) | refine Below.then ?_ hb1 (by first | omega | (simp; done) | (simp; omega))))⟩
          · have hv : ((-(a : Int)) == -9223372036854775808) = false := by rw [beq_eq_false_iff_ne]; omega
            have hlo : a < 9223372036854775808 := by omega
            rw [if_neg Bool.false_ne_true, if_neg hm] at hw
            have HW := Lib.hid hw
            clear hm hw
            go_wp2
            go_ret2
            exact ⟨by rw [HW.out]; simp [wholeN], by (repeat (first | exact Below.refl _ _ | (with_reducible assumption) | refine Below.drew ?_ | refine Below.drewN' ?_ _ | refine Below.alloc ?_ (by first | omega | (simp; done) | (simp; omega)) _ | refine Below.setCell ?_ (by first | omega | (simp; done) | (simp; omega)) _ | refine Below.then ?_ hb9 (by first | omega | (simp; done) | (simp; omega)) | refine Below.then ?_ hb8 (by first | omega | (simp; done) | (simp; omega)) | refine Below.then ?_ hb7 (by first | omega | (simp; done) | (simp; omega)) | refine Below.then ?_ hb6 (by first | omega | (simp; done) | (simp; omega)) | refine Below.then ?_ hb5 (by first | omega | (simp; done) | (simp; omega)) | refine Below.then ?_ hb4 (by first | omega | (simp; done) | (simp; omega)) | refine Below.then ?_ hb3 (by first | omega | (simp; done) | (simp; omega)) | refine Below.then ?_ hb2 (by first | omega | (simp; done) | (simp; omega)) | refine Below.then ?_ hb1 (by first | omega | (simp; done) | (simp; omega))))⟩

theorem refWhole_calls (s : ByteArray) (hs : s.size ≤ 140737488351232) (w : World) : RW s w (wholeV s.data.toList) := by
  by_cases h0 : s.size = 0
  · rw [wholeR_plain (by rw [data_nil h0]; simp)]
    exact whole_none s h0 w
  · have hp : 0 < s.size := by omega
    have hh := head_at hp
    by_cases hm : s[0].toNat = 45
    · rw [wholeR_minus (by rw [hh]; congr 1; exact UInt8.toNat_inj.1 hm)]
      exact whole_minus s hs hp hm w
    · rw [wholeR_plain (by rw [hh]; intro e; have := Option.some.inj e; rw [this] at hm; exact hm rfl)]
      exact whole_plain s hs hp hm w

end Go.Proofs.YtlohfcinffaagaaDoor
