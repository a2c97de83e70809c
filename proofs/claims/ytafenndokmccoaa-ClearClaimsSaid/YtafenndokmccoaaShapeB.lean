/- The layer 'shape': which tables may be, and sizes. -/
import Derived.Test.YtafenndokmccoaaShapeA
namespace Go.Proofs.Ytafenndokmccoaa
open Go.RowKit
set_option linter.unusedVariables false
set_option linter.unusedSimpArgs false

def tableB (ss : List ByteArray) : Bool := decide (1 ≤ ss.length) && decide (ss.length ≤ 16) && ss.all shapeB
def strV (ss : List ByteArray) : List Value := ss.map Value.string
theorem strV_len (ss : List ByteArray) : (strV ss).length = ss.length := by simp [strV]
theorem strV_get (ss : List ByteArray) (i : Nat) (h : i < ss.length) : (strV ss)[i]'(by simpa [strV] using h) = .string ss[i] := by simp [strV]
def IdxPost (ss : List ByteArray) (w : World) (e : Ending) (w' : World) : Prop := ∃ r : Int, e = .returned (.int .i64 r) ∧ decide (0 ≤ r) = (!(ss.all shapeB)) ∧ Below w.heap.size w w'

theorem all_take (ss : List ByteArray) (k : Nat) (h : k < ss.length) (ha : (ss.take k).all shapeB = true) (hb : shapeB ss[k] = true) : (ss.take (k + 1)).all shapeB = true := by
  rw [List.take_succ_eq_append_getElem h, List.all_append, ha]
  simp [hb]
theorem all_bad (ss : List ByteArray) (k : Nat) (h : k < ss.length) (hb : shapeB ss[k] = false) : ss.all shapeB = false := by
  rw [List.all_eq_false]
  exact ⟨ss[k], List.getElem_mem h, by simp [hb]⟩

set_option maxHeartbeats 400000 in
theorem indexFunc_calls (a : Option Addr) (c : Nat) (ss : List ByteArray) (hn : ss.length ≤ maxLen) (w : World) (h : SlOf w a (strV ss)) :
    Calls Try.prog 122 #[.slice a ss.length c, .func (.func 102) #[] #[]] w (IdxPost ss w) := by
  unfold maxLen at hn
  have HS := Lib.hid h
  go_enter Try.func122, Try.ntmps122
  go_wp2
  go_loopw [8] (fun i wr => ∃ k : Nat, k ≤ ss.length ∧ i = .int .i64 k ∧ Below w.heap.size w wr ∧ Hid ((ss.take k).all shapeB = true)) (fun i _ => ss.length - (intOf i).toNat)
  case atStart => exact ⟨0, Nat.zero_le _, rfl, Below.refl _ _, Lib.hid (by simp)⟩
  case round =>
    obtain ⟨k, hk, rfl, hB, hall⟩ := hrel
    by_cases hlt : k < ss.length
    · rcases HS.out.below hB with h0 | ⟨b, o, rfl, hbl, hcell⟩
      · have := congrArg List.length h0; rw [strV_len, List.length_nil] at this; omega
      have hc := hcell k (by rw [strV_len]; exact hlt)
      rw [strV_get ss k hlt] at hc
      clear hcell
      cases hs : shapeB ss[k] with
      | true =>
        have hcall := fun w => bad_calls ss[k] w
        rw [hs] at hcall
        have HC := Lib.hid hcall
        have hall' := Lib.hid (all_take ss k hlt hall.out hs)
        clear hall hs hcall
        go_wp2_with fail
        refine (HC.out _).mono ?_; rintro e1 w1 ⟨rfl, hb1⟩; obtain ⟨hc1, hf1⟩ := bcell hb1; have hz1 := hb1.size; (try simp at hz1)
        go_wp2
        go_roundw
        case rel => exact ⟨k + 1, by omega, by go_num, Below.then hB hb1 hB.size, hall'⟩
        case measure => simp [intOf]; omega
      | false =>
        have hcall := fun w => bad_calls ss[k] w
        rw [hs] at hcall
        have HC := Lib.hid hcall
        have hf := Lib.hid (all_bad ss k hlt hs)
        clear hall hs hcall
        go_wp2_with fail
        refine (HC.out _).mono ?_; rintro e1 w1 ⟨rfl, hb1⟩; obtain ⟨hc1, hf1⟩ := bcell hb1; have hz1 := hb1.size; (try simp at hz1)
        go_wp2
        go_ret
        exact ⟨k, rfl, by rw [hf.out]; simp, Below.then hB hb1 hB.size⟩
    · obtain rfl : k = ss.length := by omega
      have hf := hall.out
      rw [List.take_of_length_le (Nat.le_refl _)] at hf
      have HF := Lib.hid hf
      clear hf hall
      go_wp2
      go_ret
      exact ⟨-1, rfl, by rw [HF.out]; simp, hB⟩

set_option maxHeartbeats 400000 in
theorem containsFunc_calls (a : Option Addr) (c : Nat) (ss : List ByteArray) (hn : ss.length ≤ maxLen) (w : World) (h : SlOf w a (strV ss)) :
    Calls Try.prog 101 #[.slice a ss.length c, .func (.func 102) #[] #[]] w fun e w' => e = .returned (.bool (!(ss.all shapeB))) ∧ Below w.heap.size w w' := by
  have HC := Lib.hid (fun w h => indexFunc_calls a c ss hn w h)
  have HS := Lib.hid h
  clear h
  go_enter Try.func101, Try.ntmps101
  go_wp2_with fail
  refine (HC.out _ HS.out).mono ?_
  rintro e w1 ⟨r, rfl, hr, hb1⟩
  go_wp2
  go_ret
  exact ⟨rfl, hb1⟩

def checkE (ss : List ByteArray) : Int := if tableB ss = true then 0 else 2

set_option maxHeartbeats 400000 in
theorem check_calls (a : Option Addr) (c : Nat) (ss : List ByteArray) (hn : ss.length ≤ maxLen) (w : World) (h : SlOf w a (strV ss)) :
    Calls Try.prog 77 #[.slice a ss.length c] w fun e w' => e = .returned (.int .i64 (checkE ss)) ∧ Below w.heap.size w w' := by
  have HC := Lib.hid (fun w h => containsFunc_calls a c ss hn w h)
  have HS := Lib.hid h
  clear h
  unfold maxLen at hn
  by_cases h1 : ss.length < 1
  · have e1 : checkE ss = 2 := by simp [checkE, tableB]; omega
    rw [e1]
    clear e1
    go_enter Try.func77, Try.ntmps77
    go_wp2
    go_ret
    exact ⟨rfl, by (repeat (first | exact Below.refl _ _ | (with_reducible assumption) | refine Below.drew ?_ | refine Below.drewN' ?_ _ | refine Below.alloc ?_ (by first | omega | (simp; done) | (simp; omega)) _ | refine Below.setCell ?_ (by first | omega | (simp; done) | (simp; omega)) _ | refine Below.then ?_ hb9 (by first | omega | (simp; done) | (simp; omega)) | refine Below.then ?_ hb8 (by first | omega | (simp; done) | (simp; omega)) | refine Below.then ?_ hb7 (by first | omega | (simp; done) | (simp; omega)) | refine Below.then ?_ hb6 (by first | omega | (simp; done) | (simp; omega)) | refine Below.then ?_ hb5 (by first | omega | (simp; done) | (simp; omega)) | refine Below.then ?_ hb4 (by first | omega | (simp; done) | (simp; omega)) | refine Below.then ?_ hb3 (by first | omega | (simp; done) | (simp; omega)) | refine Below.then ?_ hb2 (by first | omega | (simp; done) | (simp; omega)) | refine Below.then ?_ hb1 (by first | omega | (simp; done) | (simp; omega))))⟩
  · by_cases h2 : 16 < ss.length
    · have e1 : checkE ss = 2 := by simp [checkE, tableB]; omega
      rw [e1]
      clear e1
      go_enter Try.func77, Try.ntmps77
      go_wp2
      go_ret
      exact ⟨rfl, by (repeat (first | exact Below.refl _ _ | (with_reducible assumption) | refine Below.drew ?_ | refine Below.drewN' ?_ _ | refine Below.alloc ?_ (by first | omega | (simp; done) | (simp; omega)) _ | refine Below.setCell ?_ (by first | omega | (simp; done) | (simp; omega)) _ | refine Below.then ?_ hb9 (by first | omega | (simp; done) | (simp; omega)) | refine Below.then ?_ hb8 (by first | omega | (simp; done) | (simp; omega)) | refine Below.then ?_ hb7 (by first | omega | (simp; done) | (simp; omega)) | refine Below.then ?_ hb6 (by first | omega | (simp; done) | (simp; omega)) | refine Below.then ?_ hb5 (by first | omega | (simp; done) | (simp; omega)) | refine Below.then ?_ hb4 (by first | omega | (simp; done) | (simp; omega)) | refine Below.then ?_ hb3 (by first | omega | (simp; done) | (simp; omega)) | refine Below.then ?_ hb2 (by first | omega | (simp; done) | (simp; omega)) | refine Below.then ?_ hb1 (by first | omega | (simp; done) | (simp; omega))))⟩
    · cases h3 : ss.all shapeB with
      | true =>
        have e1 : checkE ss = 0 := by simp [checkE, tableB, h3]; omega
        rw [e1]
        rw [h3] at HC
        clear e1 h3
        go_enter Try.func77, Try.ntmps77
        go_wp2_with fail
        refine (HC.out _ HS.out).mono ?_; rintro e1 w1 ⟨rfl, hb1⟩; obtain ⟨hc1, hf1⟩ := bcell hb1; have hz1 := hb1.size; (try simp at hz1)
        go_wp2
        go_ret
        exact ⟨rfl, by (repeat (first | exact Below.refl _ _ | (with_reducible assumption) | refine Below.drew ?_ | refine Below.drewN' ?_ _ | refine Below.alloc ?_ (by first | omega | (simp; done) | (simp; omega)) _ | refine Below.setCell ?_ (by first | omega | (simp; done) | (simp; omega)) _ | refine Below.then ?_ hb9 (by first | omega | (simp; done) | (simp; omega)) | refine Below.then ?_ hb8 (by first | omega | (simp; done) | (simp; omega)) | refine Below.then ?_ hb7 (by first | omega | (simp; done) | (simp; omega)) | refine Below.then ?_ hb6 (by first | omega | (simp; done) | (simp; omega)) | refine Below.then ?_ hb5 (by first | omega | (simp; done) | (simp; omega)) | refine Below.then ?_ hb4 (by first | omega | (simp; done) | (simp; omega)) | refine Below.then ?_ hb3 (by first | omega | (simp; done) | (simp; omega)) | refine Below.then ?_ hb2 (by first | omega | (simp; done) | (simp; omega)) | refine Below.then ?_ hb1 (by first | omega | (simp; done) | (simp; omega))))⟩
      | false =>
        have e1 : checkE ss = 2 := by simp [checkE, tableB, h3]
        rw [e1]
        rw [h3] at HC
        clear e1 h3
        go_enter Try.func77, Try.ntmps77
        go_wp2_with fail
        refine (HC.out _ HS.out).mono ?_; rintro e1 w1 ⟨rfl, hb1⟩; obtain ⟨hc1, hf1⟩ := bcell hb1; have hz1 := hb1.size; (try simp at hz1)
        go_wp2
        go_ret
        exact ⟨rfl, by (repeat (first | exact Below.refl _ _ | (with_reducible assumption) | refine Below.drew ?_ | refine Below.drewN' ?_ _ | refine Below.alloc ?_ (by first | omega | (simp; done) | (simp; omega)) _ | refine Below.setCell ?_ (by first | omega | (simp; done) | (simp; omega)) _ | refine Below.then ?_ hb9 (by first | omega | (simp; done) | (simp; omega)) | refine Below.then ?_ hb8 (by first | omega | (simp; done) | (simp; omega)) | refine Below.then ?_ hb7 (by first | omega | (simp; done) | (simp; omega)) | refine Below.then ?_ hb6 (by first | omega | (simp; done) | (simp; omega)) | refine Below.then ?_ hb5 (by first | omega | (simp; done) | (simp; omega)) | refine Below.then ?_ hb4 (by first | omega | (simp; done) | (simp; omega)) | refine Below.then ?_ hb3 (by first | omega | (simp; done) | (simp; omega)) | refine Below.then ?_ hb2 (by first | omega | (simp; done) | (simp; omega)) | refine Below.then ?_ hb1 (by first | omega | (simp; done) | (simp; omega))))⟩

/-- a table's shape by its number: what goes wrong, the shape, its size -/
def ofE (ss : List ByteArray) (i : Int) : Int := if tableB ss = true then (if 0 ≤ i ∧ i < ss.length then 0 else 130) else 2
def ofS (ss : List ByteArray) (i : Int) : ByteArray := if ofE ss i = 0 then ss.getD i.toNat ByteArray.empty else ByteArray.empty
def sizeN (ss : List ByteArray) (i : Int) : Int := if ofE ss i = 0 then 2 + (ss.getD i.toNat ByteArray.empty).size else 0
theorem ofE_bad {ss : List ByteArray} (i : Int) (h : tableB ss = false) : ofE ss i = 2 := by simp [ofE, h]
theorem ofE_out {ss : List ByteArray} {i : Int} (h : tableB ss = true) (h' : i < 0 ∨ ss.length ≤ i) : ofE ss i = 130 := by
  unfold ofE; rw [if_pos h, if_neg (by omega)]
theorem ofE_in {ss : List ByteArray} {i : Int} (h : tableB ss = true) (h0 : 0 ≤ i) (h1 : i < ss.length) : ofE ss i = 0 := by
  unfold ofE; rw [if_pos h, if_pos ⟨h0, h1⟩]
theorem ofE_zero {ss : List ByteArray} {i : Int} (h : ofE ss i = 0) : tableB ss = true ∧ 0 ≤ i ∧ i < ss.length := by
  unfold ofE at h
  by_cases h1 : tableB ss = true
  · rw [if_pos h1] at h
    by_cases h2 : 0 ≤ i ∧ i < ss.length
    · exact ⟨h1, h2⟩
    · rw [if_neg h2] at h; omega
  · rw [if_neg h1] at h; omega
theorem ofE_cases (ss : List ByteArray) (i : Int) : (tableB ss = false ∧ ofE ss i = 2) ∨ (tableB ss = true ∧ i < 0 ∧ ofE ss i = 130) ∨ (tableB ss = true ∧ 0 ≤ i ∧ ss.length ≤ i ∧ ofE ss i = 130) ∨ (tableB ss = true ∧ 0 ≤ i ∧ i < ss.length ∧ ofE ss i = 0) := by
  cases h : tableB ss with
  | false => exact .inl ⟨rfl, ofE_bad i h⟩
  | true =>
    by_cases h0 : i < 0
    · exact .inr (.inl ⟨rfl, h0, ofE_out h (.inl h0)⟩)
    · by_cases h1 : ss.length ≤ i
      · exact .inr (.inr (.inl ⟨rfl, by omega, h1, ofE_out h (.inr h1)⟩))
      · exact .inr (.inr (.inr ⟨rfl, by omega, by omega, ofE_in h (by omega) (by omega)⟩))
theorem table_len {ss : List ByteArray} (h : tableB ss = true) : 1 ≤ ss.length ∧ ss.length ≤ 16 := by
  simp [tableB] at h; exact ⟨h.1.1, h.1.2⟩
theorem table_at {ss : List ByteArray} (h : tableB ss = true) (k : Nat) (hk : k < ss.length) : shapeB ss[k] = true := by
  simp [tableB] at h; exact h.2 _ (List.getElem_mem hk)
theorem shape_size {s : ByteArray} (h : shapeB s = true) : s.size ≤ 8 := by simp [shapeB] at h; exact h.2

set_option maxHeartbeats 400000 in
theorem shOf_calls (a : Option Addr) (c : Nat) (ss : List ByteArray) (i : Int) (hn : ss.length ≤ maxLen) (w : World) (h : SlOf w a (strV ss)) :
    Calls Try.prog 146 #[.slice a ss.length c, .int .i64 i] w fun e w' => e = .returned (.tuple #[.string (ofS ss i), .int .i64 (ofE ss i)]) ∧ Below w.heap.size w w' := by
  have HS := Lib.hid h
  have hck := fun w h => check_calls a c ss hn w h
  clear h
  unfold maxLen at hn
  rcases ofE_cases ss i with ⟨ht, he⟩ | ⟨ht, h0, he⟩ | ⟨ht, h0, h1, he⟩ | ⟨ht, h0, h1, he⟩
  · have e1 : ofS ss i = ⟨#[]⟩ := by simp [ofS, he]; rfl
    have e2 : checkE ss = 2 := by simp [checkE, ht]
    rw [e2] at hck
    rw [e1, he]
    have HC := Lib.hid hck
    clear hck e1 e2 he ht
    go_enter Try.func146, Try.ntmps146
    go_wp2_with fail
    refine wp_scope_once 0 rfl ?_
    go_wp2_with fail
    refine (HC.out _ HS.out).mono ?_; rintro e1 w1 ⟨rfl, hb1⟩; obtain ⟨hc1, hf1⟩ := bcell hb1; have hz1 := hb1.size; (try simp at hz1)
    go_wp2
    go_step3
    refine ⟨rfl, ?_⟩
    go_wp2
    rw [Exit.noGoto_ret]
    go_ret2
    exact ⟨rfl, by (repeat (first | exact Below.refl _ _ | (with_reducible assumption) | refine Below.drew ?_ | refine Below.drewN' ?_ _ | refine Below.alloc ?_ (by first | omega | (simp; done) | (simp; omega)) _ | refine Below.setCell ?_ (by first | omega | (simp; done) | (simp; omega)) _ | refine Below.then ?_ hb9 (by first | omega | (simp; done) | (simp; omega)) | refine Below.then ?_ hb8 (by first | omega | (simp; done) | (simp; omega)) | refine Below.then ?_ hb7 (by first | omega | (simp; done) | (simp; omega)) | refine Below.then ?_ hb6 (by first | omega | (simp; done) | (simp; omega)) | refine Below.then ?_ hb5 (by first | omega | (simp; done) | (simp; omega)) | refine Below.then ?_ hb4 (by first | omega | (simp; done) | (simp; omega)) | refine Below.then ?_ hb3 (by first | omega | (simp; done) | (simp; omega)) | refine Below.then ?_ hb2 (by first | omega | (simp; done) | (simp; omega)) | refine Below.then ?_ hb1 (by first | omega | (simp; done) | (simp; omega))))⟩
  · have e1 : ofS ss i = ⟨#[]⟩ := by simp [ofS, he]; rfl
    have e2 : checkE ss = 0 := by simp [checkE, ht]
    rw [e2] at hck
    rw [e1, he]
    have HC := Lib.hid hck
    clear hck e1 e2 he ht
    go_enter Try.func146, Try.ntmps146
    go_wp2_with fail
    refine wp_scope_once 0 rfl ?_
    go_wp2_with fail
    refine (HC.out _ HS.out).mono ?_; rintro e1 w1 ⟨rfl, hb1⟩; obtain ⟨hc1, hf1⟩ := bcell hb1; have hz1 := hb1.size; (try simp at hz1)
    go_wp2
    go_step3
    refine ⟨rfl, ?_⟩
    go_wp2
    rw [Exit.noGoto_ret]
    go_ret2
    exact ⟨rfl, by (repeat (first | exact Below.refl _ _ | (with_reducible assumption) | refine Below.drew ?_ | refine Below.drewN' ?_ _ | refine Below.alloc ?_ (by first | omega | (simp; done) | (simp; omega)) _ | refine Below.setCell ?_ (by first | omega | (simp; done) | (simp; omega)) _ | refine Below.then ?_ hb9 (by first | omega | (simp; done) | (simp; omega)) | refine Below.then ?_ hb8 (by first | omega | (simp; done) | (simp; omega)) | refine Below.then ?_ hb7 (by first | omega | (simp; done) | (simp; omega)) | refine Below.then ?_ hb6 (by first | omega | (simp; done) | (simp; omega)) | refine Below.then ?_ hb5 (by first | omega | (simp; done) | (simp; omega)) | refine Below.then ?_ hb4 (by first | omega | (simp; done) | (simp; omega)) | refine Below.then ?_ hb3 (by first | omega | (simp; done) | (simp; omega)) | refine Below.then ?_ hb2 (by first | omega | (simp; done) | (simp; omega)) | refine Below.then ?_ hb1 (by first | omega | (simp; done) | (simp; omega))))⟩
  · have e1 : ofS ss i = ⟨#[]⟩ := by simp [ofS, he]; rfl
    have e2 : checkE ss = 0 := by simp [checkE, ht]
    rw [e2] at hck
    rw [e1, he]
    have HC := Lib.hid hck
    clear hck e1 e2 he ht
    go_enter Try.func146, Try.ntmps146
    go_wp2_with fail
    refine wp_scope_once 0 rfl ?_
    go_wp2_with fail
    refine (HC.out _ HS.out).mono ?_; rintro e1 w1 ⟨rfl, hb1⟩; obtain ⟨hc1, hf1⟩ := bcell hb1; have hz1 := hb1.size; (try simp at hz1)
    go_wp2
    go_step3
    refine ⟨rfl, ?_⟩
    go_wp2
    rw [Exit.noGoto_ret]
    go_ret2
    exact ⟨rfl, by (repeat (first | exact Below.refl _ _ | (with_reducible assumption) | refine Below.drew ?_ | refine Below.drewN' ?_ _ | refine Below.alloc ?_ (by first | omega | (simp; done) | (simp; omega)) _ | refine Below.setCell ?_ (by first | omega | (simp; done) | (simp; omega)) _ | refine Below.then ?_ hb9 (by first | omega | (simp; done) | (simp; omega)) | refine Below.then ?_ hb8 (by first | omega | (simp; done) | (simp; omega)) | refine Below.then ?_ hb7 (by first | omega | (simp; done) | (simp; omega)) | refine Below.then ?_ hb6 (by first | omega | (simp; done) | (simp; omega)) | refine Below.then ?_ hb5 (by first | omega | (simp; done) | (simp; omega)) | refine Below.then ?_ hb4 (by first | omega | (simp; done) | (simp; omega)) | refine Below.then ?_ hb3 (by first | omega | (simp; done) | (simp; omega)) | refine Below.then ?_ hb2 (by first | omega | (simp; done) | (simp; omega)) | refine Below.then ?_ hb1 (by first | omega | (simp; done) | (simp; omega))))⟩
  · have e2 : checkE ss = 0 := by simp [checkE, ht]
    rw [e2] at hck
    obtain ⟨k, rfl⟩ := Int.eq_ofNat_of_zero_le h0
    have hk : k < ss.length := by omega
    have e1 : ofS ss k = ss[k] := by unfold ofS; rw [if_pos he]; simp [hk]
    rw [e1, he]
    have HC := Lib.hid hck
    clear hck e1 e2 he ht
    go_enter Try.func146, Try.ntmps146
    go_wp2_with fail
    refine wp_scope_once 0 rfl ?_
    go_wp2_with fail
    refine (HC.out _ HS.out).mono ?_; rintro e1 w1 ⟨rfl, hb1⟩; obtain ⟨hc1, hf1⟩ := bcell hb1; have hz1 := hb1.size; (try simp at hz1)
    rcases HS.out.below hb1 with h' | ⟨b, o, rfl, hbl, hcell⟩
    · have := congrArg List.length h'; rw [strV_len, List.length_nil] at this; omega
    have hc := hcell k (by rw [strV_len]; exact hk)
    rw [strV_get ss k hk] at hc
    clear hcell
    go_wp2
    simp only [Exit.jump]
    go_ret2
    exact ⟨rfl, by (repeat (first | exact Below.refl _ _ | (with_reducible assumption) | refine Below.drew ?_ | refine Below.drewN' ?_ _ | refine Below.alloc ?_ (by first | omega | (simp; done) | (simp; omega)) _ | refine Below.setCell ?_ (by first | omega | (simp; done) | (simp; omega)) _ | refine Below.then ?_ hb9 (by first | omega | (simp; done) | (simp; omega)) | refine Below.then ?_ hb8 (by first | omega | (simp; done) | (simp; omega)) | refine Below.then ?_ hb7 (by first | omega | (simp; done) | (simp; omega)) | refine Below.then ?_ hb6 (by first | omega | (simp; done) | (simp; omega)) | refine Below.then ?_ hb5 (by first | omega | (simp; done) | (simp; omega)) | refine Below.then ?_ hb4 (by first | omega | (simp; done) | (simp; omega)) | refine Below.then ?_ hb3 (by first | omega | (simp; done) | (simp; omega)) | refine Below.then ?_ hb2 (by first | omega | (simp; done) | (simp; omega)) | refine Below.then ?_ hb1 (by first | omega | (simp; done) | (simp; omega))))⟩

set_option maxHeartbeats 400000 in
theorem shSize_calls (a : Option Addr) (c : Nat) (ss : List ByteArray) (i : Int) (hn : ss.length ≤ maxLen) (w : World) (h : SlOf w a (strV ss)) :
    Calls Try.prog 127 #[.slice a ss.length c, .int .i64 i] w fun e w' => e = .returned (.tuple #[.int .i64 (sizeN ss i), .int .i64 (ofE ss i)]) ∧ Below w.heap.size w w' := by
  have HS := Lib.hid h
  have hof := fun w h => shOf_calls a c ss i hn w h
  clear h
  by_cases he : ofE ss i = 0
  · obtain ⟨ht, h0, h1⟩ := ofE_zero he
    obtain ⟨k, rfl⟩ := Int.eq_ofNat_of_zero_le h0
    have hk : k < ss.length := by omega
    have hsz := shape_size (table_at ht k hk)
    have e1 : ofS ss k = ss[k] := by unfold ofS; rw [if_pos he]; simp [hk]
    have e2 : sizeN ss k = 2 + ss[k].size := by unfold sizeN; rw [if_pos he]; simp [hk]
    rw [e1, he] at hof
    rw [e2, he]
    have HO := Lib.hid hof
    clear hof e1 e2 he ht
    go_enter Try.func127, Try.ntmps127
    go_wp2_with fail
    refine (HO.out _ HS.out).mono ?_; rintro e1 w1 ⟨rfl, hb1⟩; obtain ⟨hc1, hf1⟩ := bcell hb1; have hz1 := hb1.size; (try simp at hz1)
    go_wp2
    go_ret2
    exact ⟨rfl, by (repeat (first | exact Below.refl _ _ | (with_reducible assumption) | refine Below.drew ?_ | refine Below.drewN' ?_ _ | refine Below.alloc ?_ (by first | omega | (simp; done) | (simp; omega)) _ | refine Below.setCell ?_ (by first | omega | (simp; done) | (simp; omega)) _ | refine Below.then ?_ hb9 (by first | omega | (simp; done) | (simp; omega)) | refine Below.then ?_ hb8 (by first | omega | (simp; done) | (simp; omega)) | refine Below.then ?_ hb7 (by first | omega | (simp; done) | (simp; omega)) | refine Below.then ?_ hb6 (by first | omega | (simp; done) | (simp; omega)) | refine Below.then ?_ hb5 (by first | omega | (simp; done) | (simp; omega)) | refine Below.then ?_ hb4 (by first | omega | (simp; done) | (simp; omega)) | refine Below.then ?_ hb3 (by first | omega | (simp; done) | (simp; omega)) | refine Below.then ?_ hb2 (by first | omega | (simp; done) | (simp; omega)) | refine Below.then ?_ hb1 (by first | omega | (simp; done) | (simp; omega))))⟩
  · have e1 : ofS ss i = ⟨#[]⟩ := by unfold ofS; rw [if_neg he]; rfl
    have e2 : sizeN ss i = 0 := by unfold sizeN; rw [if_neg he]
    have hbb : (ofE ss i != 0) = true := by simpa using he
    rw [e1] at hof
    rw [e2]
    have HO := Lib.hid hof
    clear hof e1 e2 he
    go_enter Try.func127, Try.ntmps127
    go_wp2_with fail
    refine (HO.out _ HS.out).mono ?_; rintro e1 w1 ⟨rfl, hb1⟩; obtain ⟨hc1, hf1⟩ := bcell hb1; have hz1 := hb1.size; (try simp at hz1)
    go_wp2
    go_ret2
    exact ⟨rfl, by (repeat (first | exact Below.refl _ _ | (with_reducible assumption) | refine Below.drew ?_ | refine Below.drewN' ?_ _ | refine Below.alloc ?_ (by first | omega | (simp; done) | (simp; omega)) _ | refine Below.setCell ?_ (by first | omega | (simp; done) | (simp; omega)) _ | refine Below.then ?_ hb9 (by first | omega | (simp; done) | (simp; omega)) | refine Below.then ?_ hb8 (by first | omega | (simp; done) | (simp; omega)) | refine Below.then ?_ hb7 (by first | omega | (simp; done) | (simp; omega)) | refine Below.then ?_ hb6 (by first | omega | (simp; done) | (simp; omega)) | refine Below.then ?_ hb5 (by first | omega | (simp; done) | (simp; omega)) | refine Below.then ?_ hb4 (by first | omega | (simp; done) | (simp; omega)) | refine Below.then ?_ hb3 (by first | omega | (simp; done) | (simp; omega)) | refine Below.then ?_ hb2 (by first | omega | (simp; done) | (simp; omega)) | refine Below.then ?_ hb1 (by first | omega | (simp; done) | (simp; omega))))⟩

end Go.Proofs.Ytafenndokmccoaa
