/- The layer 'shape': the kinds of fields by their letters; which shapes may be. -/
import Derived.Test.YtafenndokmccoaaKit
import Derived.Laws.RangeAny
import Derived.LoopTactic
namespace Go.Proofs.Ytafenndokmccoaa
open Go.RowKit
set_option linter.unusedVariables false
set_option linter.unusedSimpArgs false

def lettersMap : Obj := .map #[{ key := .int .i32 112, val := .int .i64 0, born := 0 }, { key := .int .i32 115, val := .int .i64 1, born := 1 }] 2

theorem letter_find (a : Int) : Instr.findNow (.int .i32) (.int .i32 a) [{ key := .int .i32 112, val := .int .i64 0, born := 0 }, { key := .int .i32 115, val := .int .i64 1, born := 1 }] 0 =
    some (if a = 112 then some (0, .int .i64 0) else if a = 115 then some (1, .int .i64 1) else none) := by
  by_cases h : a = 112
  · subst h; rfl
  · by_cases h' : a = 115
    · subst h'; rfl
    · have e1 : (a == 112) = false := by simp [h]
      have e2 : (a == 115) = false := by simp [h']
      simp [Instr.findNow, Instr.sameNow, e1, e2, h, h']

/-- a letter's kind; whether it is one -/
def letterK (a : Int) : Int := if a = 115 then 1 else 0
def letterB (a : Int) : Bool := decide (a = 112) || decide (a = 115)
theorem letter_ask (w : World) (r : Nat) (a : Int) (hb : w.heap[r]? = some lettersMap) :
    (Instr.lookup 195 (.map (some r)) (.int .i32 a) true).run Try.prog w = .ok (.tuple #[.int .i64 (letterK a), .bool (letterB a)]) w ∧
    (Instr.lookup 195 (.map (some r)) (.int .i32 a) false).run Try.prog w = .ok (.int .i64 (letterK a)) w := by
  have h := run_mapAsk (P := Try.prog) w 195 21 167 .i32 r _ 2 a _ (.int .i64 0) Try.underlying195 Try.underlying21 hb (letter_find a) (by kernel_rfl)
  by_cases h1 : a = 112
  · subst h1; exact h
  · by_cases h2 : a = 115
    · subst h2; exact h
    · simp only [if_neg h1, if_neg h2] at h
      have e1 : letterK a = 0 := by simp [letterK, h2]
      have e2 : letterB a = false := by simp [letterB, h1, h2]
      rw [e1, e2]
      exact h

set_option maxHeartbeats 400000 in
theorem letters_calls (w : World) :
    Calls Try.prog 123 #[] w fun e w' => e = .returned (.map (some w.heap.size)) ∧ w.alloc lettersMap = w' := by
  have hmm := @run_makeMap Try.prog
  have h1 := run_mapPut_new (P := Try.prog) w 195 21 167 .i32 #[] 0 112 (.int .i64 0) Try.underlying195 Try.underlying21 rfl
  have h2 := run_mapPut_new (P := Try.prog) w 195 21 167 .i32 #[{ key := .int .i32 112, val := .int .i64 0, born := 0 }] 1 115 (.int .i64 1) Try.underlying195 Try.underlying21 rfl
  go_enter Try.func123, Try.ntmps123
  go_wp2
  go_ret
  exact ⟨rfl, rfl⟩

/-- may it be a letter of a shape; may a shape be -/
def letterOk (c : UInt8) : Bool := c == 112 || c == 115
def lettersOk (s : ByteArray) : Bool := s.data.toList.all letterOk
def shapeB (s : ByteArray) : Bool := lettersOk s && decide (s.size ≤ 8)

theorem take_all (s : ByteArray) (k : Nat) (h : k < s.size) (ha : (s.data.toList.take k).all letterOk = true) (hb : letterOk s[k] = true) : (s.data.toList.take (k + 1)).all letterOk = true := by
  rw [List.take_succ_eq_append_getElem (by simpa using h)]
  rw [List.all_append, ha]
  simp
  exact hb
theorem not_all (s : ByteArray) (k : Nat) (h : k < s.size) (hb : letterOk s[k] = false) : lettersOk s = false := by
  unfold lettersOk
  rw [List.all_eq_false]
  exact ⟨s[k], by show s.data[k] ∈ _; simp, by simp [hb]⟩
theorem rune_ok (s : ByteArray) (k : Nat) (h : k < s.size) (hb : letterOk s[k] = true) : letterB ((Utf8.decode s k).1 : Int) = true ∧ (Utf8.decode s k).2 = 1 := by
  have hc : s[k] = 112 ∨ s[k] = 115 := by simpa [letterOk] using hb
  have ha : s[k].toNat < 128 := by rcases hc with h | h <;> (rw [h]; decide)
  rw [decode_ascii s k h ha]
  refine ⟨?_, rfl⟩
  rcases hc with h | h <;> (rw [h]; decide)
theorem rune_bad (s : ByteArray) (k : Nat) (h : k < s.size) (hb : letterOk s[k] = false) : letterB ((Utf8.decode s k).1 : Int) = false := by
  by_cases ha : s[k].toNat < 128
  · rw [decode_ascii s k h ha]
    have hc : s[k] ≠ 112 ∧ s[k] ≠ 115 := by simpa [letterOk] using hb
    have h1 : s[k].toNat ≠ 112 := fun e => hc.1 (UInt8.toNat_inj.1 e)
    have h2 : s[k].toNat ≠ 115 := fun e => hc.2 (UInt8.toNat_inj.1 e)
    simp [letterB]
    omega
  · have := (decode_high s k h (by omega)).1
    simp [letterB]
    omega

set_option maxHeartbeats 400000 in
theorem bad_calls (s : ByteArray) (w : World) :
    Calls Try.prog 102 #[.string s] w fun e w' => e = .returned (.bool (!shapeB s)) ∧ Below w.heap.size w w' := by
  go_enter Try.func102, Try.ntmps102
  go_wp2_with fail
  refine (letters_calls _).mono ?_
  rintro e w1 ⟨rfl, rfl⟩
  have hw1 : ∃ W1, w.alloc lettersMap = W1 := ⟨_, rfl⟩
  obtain ⟨W1, hw1⟩ := hw1
  have hb1 : Below w.heap.size w W1 := by rw [← hw1]; exact (Below.refl _ _).alloc (Nat.le_refl _) _
  have hz1 : w.heap.size < W1.heap.size := by rw [← hw1]; simp
  have hm1 : W1.heap[w.heap.size]? = some lettersMap := by rw [← hw1]; exact (MapKept.heap_alloc w _).1
  rw [hw1]
  clear hw1
  have hmi : ∀ p, (W1.iter s p).heap[w.heap.size]? = some lettersMap := fun p => ((MapKept.heap_alloc W1 _).2 _ hz1).trans hm1
  have HM := Lib.hid hmi
  clear hmi hm1
  go_wp2
  go_loopw [] (fun wr => ∃ pos : Nat, pos ≤ s.size ∧ wr = W1.iter s pos ∧ Hid ((s.data.toList.take pos).all letterOk = true)) (fun wr => s.size - wr.iterPos W1.heap.size)
  case atStart => exact ⟨0, Nat.zero_le _, rfl, Lib.hid (by simp)⟩
  case round =>
    obtain ⟨pos, hp, rfl, hall⟩ := hrel
    by_cases hlt : pos < s.size
    · cases hk : letterOk s[pos] with
      | true =>
        obtain ⟨r1, r2⟩ := rune_ok s pos hlt hk
        have hnx : ∀ ty, (Instr.next (.pointer (some ⟨W1.heap.size, 0, none⟩)) true ty).run Try.prog (W1.iter s pos) = _ := fun ty => run_next_any W1 s pos ty hlt
        rw [r2] at hnx
        have hl := (letter_ask (W1.iter s (pos + 1)) w.heap.size ((Utf8.decode s pos).1 : Int) (HM.out _)).1
        rw [r1] at hl
        have hall' := Lib.hid (take_all s pos hlt hall.out hk)
        clear hk r1 r2 hall
        go_wp2
        go_roundw
        case rel => exact ⟨pos + 1, by omega, rfl, hall'⟩
        case measure => simp; omega
      | false =>
        have r1 := rune_bad s pos hlt hk
        have hnx : ∀ ty, (Instr.next (.pointer (some ⟨W1.heap.size, 0, none⟩)) true ty).run Try.prog (W1.iter s pos) = _ := fun ty => run_next_any W1 s pos ty hlt
        have hl := (letter_ask (W1.iter s (pos + (Utf8.decode s pos).2)) w.heap.size ((Utf8.decode s pos).1 : Int) (HM.out _)).1
        rw [r1] at hl
        have hf : shapeB s = false := by simp [shapeB, not_all s pos hlt hk]
        have HF := Lib.hid hf
        clear hk r1 hall hf
        go_wp2
        go_ret
        exact ⟨by rw [HF.out]; rfl, hb1.trans ((Below.refl _ _).alloc hb1.size _)⟩
    · have hnx : ∀ ty, (Instr.next (.pointer (some ⟨W1.heap.size, 0, none⟩)) true ty).run Try.prog (W1.iter s pos) = _ := fun ty => run_next_end W1 s pos ty hlt
      obtain rfl : pos = s.size := by omega
      have ho : lettersOk s = true := by
        have := hall.out
        rwa [List.take_of_length_le (by simp)] at this
      have hf : (!shapeB s) = decide (8 < s.size) := by
        unfold shapeB
        rw [ho, Bool.eq_iff_iff]; simp
      have HF := Lib.hid hf
      clear hf ho hall hlt
      go_wp2
      go_ret
      exact ⟨by rw [HF.out]; simp; omega, hb1.trans ((Below.refl _ _).alloc hb1.size _)⟩

end Go.Proofs.Ytafenndokmccoaa
