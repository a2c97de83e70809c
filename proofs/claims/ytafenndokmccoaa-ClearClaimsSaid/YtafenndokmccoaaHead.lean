/- The layer 'head' and its reference: what each call returns. -/
import Derived.Test.YtafenndokmccoaaKit
namespace Go.Proofs.Ytafenndokmccoaa
open Go.RowKit
set_option linter.unusedVariables false
set_option linter.unusedSimpArgs false

def nameOf (m : Int) : ByteArray := if m = 0 then ⟨#[119, 104, 105, 116, 101]⟩ else if m = 1 then ⟨#[103, 114, 101, 121]⟩ else if m = 2 then ⟨#[98, 108, 97, 99, 107]⟩ else ⟨#[]⟩
def markB (m : Int) : Bool := decide (0 ≤ m ∧ m ≤ 2)
def rightB (s m : Int) : Bool := decide (0 ≤ m ∧ m ≤ 2 ∧ 0 ≤ s ∧ s < 16)
/-- a header's word -/
def hWord (s m : Int) : Int := 8 * (4 * s + m) + 6
def hMakeW (s m : Int) : Int := if rightB s m = true then hWord s m else 0
def hMakeE (s m : Int) : Int := if rightB s m = true then 0 else 2
def hOk (w : Int) : Bool := decide (w % 8 = 6 ∧ w / 8 < 64 ∧ w / 8 % 4 ≠ 3)
def hShape (w : Int) : Int := if hOk w = true then w / 8 / 4 else 0
def hMark (w : Int) : Int := if hOk w = true then w / 8 % 4 else 0
def markedW (w m : Int) : Int := if hOk w = true ∧ markB m = true then hWord (hShape w) m else 0
def markedE (w m : Int) : Int := if hOk w = true ∧ markB m = true then 0 else 2

theorem rightB_markB {s m : Int} : rightB s m = (markB m && decide (0 ≤ s) && decide (s < 16)) := by
  unfold rightB markB
  rw [Bool.eq_iff_iff]; simp; omega
theorem hOk_right {w : Int} (h0 : 0 ≤ w) (h : w % 8 = 6) (h1 : w / 8 < 64) : rightB (w / 8 / 4) (w / 8 % 4) = hOk w := by
  unfold rightB hOk
  rw [Bool.eq_iff_iff]; simp; omega

set_option maxHeartbeats 400000 in
theorem names_calls (w : World) :
    Calls Try.prog 178 #[] w fun e w' => e = .returned (.agg #[.string ⟨#[119, 104, 105, 116, 101]⟩, .string ⟨#[103, 114, 101, 121]⟩, .string ⟨#[98, 108, 97, 99, 107]⟩]) ∧ Below w.heap.size w w' := by
  go_enter Try.func178, Try.ntmps178
  go_wp2
  exact bodyPost_ret (v := .agg #[.string ⟨#[119, 104, 105, 116, 101]⟩, .string ⟨#[103, 114, 101, 121]⟩, .string ⟨#[98, 108, 97, 99, 107]⟩]) (by simp [results, Try.results178, go_sem]) rfl ⟨rfl, (Below.refl _ _).alloc (Nat.le_refl _) _⟩

set_option maxHeartbeats 400000 in
theorem name_calls (m : Int) (w : World) :
    Calls Try.prog 173 #[.int .i64 m] w fun e w' => e = .returned (.tuple #[.string (nameOf m), .bool (markB m)]) ∧ Below w.heap.size w w' := by
  by_cases h : 0 ≤ m ∧ m ≤ 2
  · obtain ⟨h0, h1⟩ := h
    have e1 : markB m = true := by simp [markB, h0, h1]
    rw [e1]
    have hm : m = 0 ∨ m = 1 ∨ m = 2 := by omega
    have i0 : ∀ W : World, (Instr.index 262 (.agg #[.string ⟨#[119, 104, 105, 116, 101]⟩, .string ⟨#[103, 114, 101, 121]⟩, .string ⟨#[98, 108, 97, 99, 107]⟩]) (.int .i64 0)).run Try.prog W = .ok (.string ⟨#[119, 104, 105, 116, 101]⟩) W := fun _ => by kernel_rfl
    have i1 : ∀ W : World, (Instr.index 262 (.agg #[.string ⟨#[119, 104, 105, 116, 101]⟩, .string ⟨#[103, 114, 101, 121]⟩, .string ⟨#[98, 108, 97, 99, 107]⟩]) (.int .i64 1)).run Try.prog W = .ok (.string ⟨#[103, 114, 101, 121]⟩) W := fun _ => by kernel_rfl
    have i2 : ∀ W : World, (Instr.index 262 (.agg #[.string ⟨#[119, 104, 105, 116, 101]⟩, .string ⟨#[103, 114, 101, 121]⟩, .string ⟨#[98, 108, 97, 99, 107]⟩]) (.int .i64 2)).run Try.prog W = .ok (.string ⟨#[98, 108, 97, 99, 107]⟩) W := fun _ => by kernel_rfl
    rcases hm with rfl | rfl | rfl <;>
    · go_enter Try.func173, Try.ntmps173
      go_wp2_with fail
      refine (names_calls _).mono ?_
      rintro e w1 ⟨rfl, hb⟩
      go_wp2
      go_ret2
      exact ⟨rfl, by (repeat (first | exact Below.refl _ _ | (with_reducible assumption) | refine Below.drew ?_ | refine Below.drewN' ?_ _ | refine Below.alloc ?_ (by first | omega | (simp; done) | (simp; omega)) _ | refine Below.setCell ?_ (by first | omega | (simp; done) | (simp; omega)) _ | refine Below.then ?_ hb9 (by first | omega | (simp; done) | (simp; omega)) | refine Below.then ?_ hb8 (by first | omega | (simp; done) | (simp; omega)) | refine Below.then ?_ hb7 (by first | omega | (simp; done) | (simp; omega)) | refine Below.then ?_ hb6 (by first | omega | (simp; done) | (simp; omega)) | refine Below.then ?_ hb5 (by first | omega | (simp; done) | (simp; omega)) | refine Below.then ?_ hb4 (by first | omega | (simp; done) | (simp; omega)) | refine Below.then ?_ hb3 (by first | omega | (simp; done) | (simp; omega)) | refine Below.then ?_ hb2 (by first | omega | (simp; done) | (simp; omega)) | refine Below.then ?_ hb1 (by first | omega | (simp; done) | (simp; omega))))⟩
  · have e1 : markB m = false := by simp [markB]; omega
    have e2 : nameOf m = ⟨#[]⟩ := by unfold nameOf; rw [if_neg (by omega), if_neg (by omega), if_neg (by omega)]
    rw [e1, e2]
    clear e1 e2
    by_cases h0 : 0 ≤ m
    · have h1 : 2 < m := by omega
      clear h
      go_enter Try.func173, Try.ntmps173
      go_wp2
      go_ret2
      exact ⟨rfl, by (repeat (first | exact Below.refl _ _ | (with_reducible assumption) | refine Below.drew ?_ | refine Below.drewN' ?_ _ | refine Below.alloc ?_ (by first | omega | (simp; done) | (simp; omega)) _ | refine Below.setCell ?_ (by first | omega | (simp; done) | (simp; omega)) _ | refine Below.then ?_ hb9 (by first | omega | (simp; done) | (simp; omega)) | refine Below.then ?_ hb8 (by first | omega | (simp; done) | (simp; omega)) | refine Below.then ?_ hb7 (by first | omega | (simp; done) | (simp; omega)) | refine Below.then ?_ hb6 (by first | omega | (simp; done) | (simp; omega)) | refine Below.then ?_ hb5 (by first | omega | (simp; done) | (simp; omega)) | refine Below.then ?_ hb4 (by first | omega | (simp; done) | (simp; omega)) | refine Below.then ?_ hb3 (by first | omega | (simp; done) | (simp; omega)) | refine Below.then ?_ hb2 (by first | omega | (simp; done) | (simp; omega)) | refine Below.then ?_ hb1 (by first | omega | (simp; done) | (simp; omega))))⟩
    · have h1 : m < 0 := by omega
      clear h h0
      go_enter Try.func173, Try.ntmps173
      go_wp2
      go_ret2
      exact ⟨rfl, by (repeat (first | exact Below.refl _ _ | (with_reducible assumption) | refine Below.drew ?_ | refine Below.drewN' ?_ _ | refine Below.alloc ?_ (by first | omega | (simp; done) | (simp; omega)) _ | refine Below.setCell ?_ (by first | omega | (simp; done) | (simp; omega)) _ | refine Below.then ?_ hb9 (by first | omega | (simp; done) | (simp; omega)) | refine Below.then ?_ hb8 (by first | omega | (simp; done) | (simp; omega)) | refine Below.then ?_ hb7 (by first | omega | (simp; done) | (simp; omega)) | refine Below.then ?_ hb6 (by first | omega | (simp; done) | (simp; omega)) | refine Below.then ?_ hb5 (by first | omega | (simp; done) | (simp; omega)) | refine Below.then ?_ hb4 (by first | omega | (simp; done) | (simp; omega)) | refine Below.then ?_ hb3 (by first | omega | (simp; done) | (simp; omega)) | refine Below.then ?_ hb2 (by first | omega | (simp; done) | (simp; omega)) | refine Below.then ?_ hb1 (by first | omega | (simp; done) | (simp; omega))))⟩

set_option maxHeartbeats 400000 in
theorem right_calls (s m : Int) (w : World) :
    Calls Try.prog 145 #[.agg #[.int .i64 s, .int .i64 m]] w fun e w' => e = .returned (.bool (rightB s m)) ∧ Below w.heap.size w w' := by
  rw [rightB_markB]
  have hn := fun w => name_calls m w
  have HN := Lib.hid hn
  clear hn
  cases hm : markB m with
  | false =>
    rw [hm] at HN
    clear hm
    go_enter Try.func145, Try.ntmps145
    go_wp2_with fail
    refine (HN.out _).mono ?_; rintro e1 w1 ⟨rfl, hb1⟩; obtain ⟨hc1, hf1⟩ := bcell hb1; have hz1 := hb1.size; (try simp at hz1)
    go_wp2
    go_ret
    exact ⟨rfl, by (repeat (first | exact Below.refl _ _ | (with_reducible assumption) | refine Below.drew ?_ | refine Below.drewN' ?_ _ | refine Below.alloc ?_ (by first | omega | (simp; done) | (simp; omega)) _ | refine Below.setCell ?_ (by first | omega | (simp; done) | (simp; omega)) _ | refine Below.then ?_ hb9 (by first | omega | (simp; done) | (simp; omega)) | refine Below.then ?_ hb8 (by first | omega | (simp; done) | (simp; omega)) | refine Below.then ?_ hb7 (by first | omega | (simp; done) | (simp; omega)) | refine Below.then ?_ hb6 (by first | omega | (simp; done) | (simp; omega)) | refine Below.then ?_ hb5 (by first | omega | (simp; done) | (simp; omega)) | refine Below.then ?_ hb4 (by first | omega | (simp; done) | (simp; omega)) | refine Below.then ?_ hb3 (by first | omega | (simp; done) | (simp; omega)) | refine Below.then ?_ hb2 (by first | omega | (simp; done) | (simp; omega)) | refine Below.then ?_ hb1 (by first | omega | (simp; done) | (simp; omega))))⟩
  | true =>
    rw [hm] at HN
    clear hm
    by_cases h0 : 0 ≤ s
    · by_cases h1 : s < 16
      · have E : (true && decide (0 ≤ s) && decide (s < 16)) = true := by simp [h0, h1]
        rw [E]
        clear E
        go_enter Try.func145, Try.ntmps145
        go_wp2_with fail
        refine (HN.out _).mono ?_; rintro e1 w1 ⟨rfl, hb1⟩; obtain ⟨hc1, hf1⟩ := bcell hb1; have hz1 := hb1.size; (try simp at hz1)
        go_wp2
        go_ret
        exact ⟨by simp, by (repeat (first | exact Below.refl _ _ | (with_reducible assumption) | refine Below.drew ?_ | refine Below.drewN' ?_ _ | refine Below.alloc ?_ (by first | omega | (simp; done) | (simp; omega)) _ | refine Below.setCell ?_ (by first | omega | (simp; done) | (simp; omega)) _ | refine Below.then ?_ hb9 (by first | omega | (simp; done) | (simp; omega)) | refine Below.then ?_ hb8 (by first | omega | (simp; done) | (simp; omega)) | refine Below.then ?_ hb7 (by first | omega | (simp; done) | (simp; omega)) | refine Below.then ?_ hb6 (by first | omega | (simp; done) | (simp; omega)) | refine Below.then ?_ hb5 (by first | omega | (simp; done) | (simp; omega)) | refine Below.then ?_ hb4 (by first | omega | (simp; done) | (simp; omega)) | refine Below.then ?_ hb3 (by first | omega | (simp; done) | (simp; omega)) | refine Below.then ?_ hb2 (by first | omega | (simp; done) | (simp; omega)) | refine Below.then ?_ hb1 (by first | omega | (simp; done) | (simp; omega))))⟩
      · have h2 : 16 ≤ s := by omega
        have E : (true && decide (0 ≤ s) && decide (s < 16)) = false := by simp [h1]
        rw [E]
        clear E h1
        go_enter Try.func145, Try.ntmps145
        go_wp2_with fail
        refine (HN.out _).mono ?_; rintro e1 w1 ⟨rfl, hb1⟩; obtain ⟨hc1, hf1⟩ := bcell hb1; have hz1 := hb1.size; (try simp at hz1)
        go_wp2
        go_ret
        exact ⟨by simp; omega, by (repeat (first | exact Below.refl _ _ | (with_reducible assumption) | refine Below.drew ?_ | refine Below.drewN' ?_ _ | refine Below.alloc ?_ (by first | omega | (simp; done) | (simp; omega)) _ | refine Below.setCell ?_ (by first | omega | (simp; done) | (simp; omega)) _ | refine Below.then ?_ hb9 (by first | omega | (simp; done) | (simp; omega)) | refine Below.then ?_ hb8 (by first | omega | (simp; done) | (simp; omega)) | refine Below.then ?_ hb7 (by first | omega | (simp; done) | (simp; omega)) | refine Below.then ?_ hb6 (by first | omega | (simp; done) | (simp; omega)) | refine Below.then ?_ hb5 (by first | omega | (simp; done) | (simp; omega)) | refine Below.then ?_ hb4 (by first | omega | (simp; done) | (simp; omega)) | refine Below.then ?_ hb3 (by first | omega | (simp; done) | (simp; omega)) | refine Below.then ?_ hb2 (by first | omega | (simp; done) | (simp; omega)) | refine Below.then ?_ hb1 (by first | omega | (simp; done) | (simp; omega))))⟩
    · have h2 : s < 0 := by omega
      have E : (true && decide (0 ≤ s) && decide (s < 16)) = false := by simp [h0]
      rw [E]
      clear E h0
      go_enter Try.func145, Try.ntmps145
      go_wp2_with fail
      refine (HN.out _).mono ?_; rintro e1 w1 ⟨rfl, hb1⟩; obtain ⟨hc1, hf1⟩ := bcell hb1; have hz1 := hb1.size; (try simp at hz1)
      go_wp2
      go_ret
      exact ⟨rfl, by (repeat (first | exact Below.refl _ _ | (with_reducible assumption) | refine Below.drew ?_ | refine Below.drewN' ?_ _ | refine Below.alloc ?_ (by first | omega | (simp; done) | (simp; omega)) _ | refine Below.setCell ?_ (by first | omega | (simp; done) | (simp; omega)) _ | refine Below.then ?_ hb9 (by first | omega | (simp; done) | (simp; omega)) | refine Below.then ?_ hb8 (by first | omega | (simp; done) | (simp; omega)) | refine Below.then ?_ hb7 (by first | omega | (simp; done) | (simp; omega)) | refine Below.then ?_ hb6 (by first | omega | (simp; done) | (simp; omega)) | refine Below.then ?_ hb5 (by first | omega | (simp; done) | (simp; omega)) | refine Below.then ?_ hb4 (by first | omega | (simp; done) | (simp; omega)) | refine Below.then ?_ hb3 (by first | omega | (simp; done) | (simp; omega)) | refine Below.then ?_ hb2 (by first | omega | (simp; done) | (simp; omega)) | refine Below.then ?_ hb1 (by first | omega | (simp; done) | (simp; omega))))⟩

theorem rightB_mk {s m : Int} : rightB s m = true ↔ (0 ≤ m ∧ m ≤ 2 ∧ 0 ≤ s ∧ s < 16) := by simp [rightB]

set_option maxHeartbeats 400000 in
theorem of_calls (x : Int) (h0 : 0 ≤ x) (h1 : x < 18446744073709551616) (w : World) :
    Calls Try.prog 126 #[.int .u64 x] w fun e w' => e = .returned (.tuple #[.agg #[.int .i64 (hShape x), .int .i64 (hMark x)], .bool (hOk x)]) ∧ Below w.heap.size w w' := by
  by_cases ha : x % 8 = 6
  · have b1 : (x % 8 != 6) = false := by simp [ha]
    by_cases hb : x / 8 < 64
    · have hr := hOk_right h0 ha hb
      have hn := fun w => right_calls (x / 8 / 4) (x / 8 % 4) w
      rw [hr] at hn
      have HN := Lib.hid hn
      have b2 : 0 ≤ x / 8 := by omega
      clear hn hr ha
      cases hk : hOk x with
      | false =>
        rw [hk] at HN
        have e1 : hShape x = 0 := by simp [hShape, hk]
        have e2 : hMark x = 0 := by simp [hMark, hk]
        rw [e1, e2]
        clear hk e1 e2
        go_enter Try.func126, Try.ntmps126
        go_wp2_with fail
        refine (HN.out _).mono ?_; rintro e1 w1 ⟨rfl, hb1⟩; obtain ⟨hc1, hf1⟩ := bcell hb1; have hz1 := hb1.size; (try simp at hz1)
        go_wp2
        have q0 := hc1 w.heap.size 0 (by first | omega | (simp; done) | (simp; omega)); simp [go_sem] at q0
        have q1 := hc1 w.heap.size 1 (by first | omega | (simp; done) | (simp; omega)); simp [go_sem] at q1
        exact bodyPost_ret (v := .tuple #[.agg #[.int .i64 0, .int .i64 0], .bool false]) (by simp [results, Try.results126, go_sem, q0, q1]) rfl ⟨rfl, by (repeat (first | exact Below.refl _ _ | (with_reducible assumption) | refine Below.drew ?_ | refine Below.drewN' ?_ _ | refine Below.alloc ?_ (by first | omega | (simp; done) | (simp; omega)) _ | refine Below.setCell ?_ (by first | omega | (simp; done) | (simp; omega)) _ | refine Below.then ?_ hb9 (by first | omega | (simp; done) | (simp; omega)) | refine Below.then ?_ hb8 (by first | omega | (simp; done) | (simp; omega)) | refine Below.then ?_ hb7 (by first | omega | (simp; done) | (simp; omega)) | refine Below.then ?_ hb6 (by first | omega | (simp; done) | (simp; omega)) | refine Below.then ?_ hb5 (by first | omega | (simp; done) | (simp; omega)) | refine Below.then ?_ hb4 (by first | omega | (simp; done) | (simp; omega)) | refine Below.then ?_ hb3 (by first | omega | (simp; done) | (simp; omega)) | refine Below.then ?_ hb2 (by first | omega | (simp; done) | (simp; omega)) | refine Below.then ?_ hb1 (by first | omega | (simp; done) | (simp; omega))))⟩
      | true =>
        rw [hk] at HN
        have e1 : hShape x = x / 8 / 4 := by simp [hShape, hk]
        have e2 : hMark x = x / 8 % 4 := by simp [hMark, hk]
        rw [e1, e2]
        clear hk e1 e2
        go_enter Try.func126, Try.ntmps126
        go_wp2_with fail
        refine (HN.out _).mono ?_; rintro e1 w1 ⟨rfl, hb1⟩; obtain ⟨hc1, hf1⟩ := bcell hb1; have hz1 := hb1.size; (try simp at hz1)
        go_wp2
        have q0 := hc1 w.heap.size 0 (by first | omega | (simp; done) | (simp; omega)); simp [go_sem] at q0
        have q1 := hc1 w.heap.size 1 (by first | omega | (simp; done) | (simp; omega)); simp [go_sem] at q1
        exact bodyPost_ret (v := .tuple #[.agg #[.int .i64 (x / 8 / 4), .int .i64 (x / 8 % 4)], .bool true]) (by simp [results, Try.results126, go_sem, q0, q1]) rfl ⟨rfl, by (repeat (first | exact Below.refl _ _ | (with_reducible assumption) | refine Below.drew ?_ | refine Below.drewN' ?_ _ | refine Below.alloc ?_ (by first | omega | (simp; done) | (simp; omega)) _ | refine Below.setCell ?_ (by first | omega | (simp; done) | (simp; omega)) _ | refine Below.then ?_ hb9 (by first | omega | (simp; done) | (simp; omega)) | refine Below.then ?_ hb8 (by first | omega | (simp; done) | (simp; omega)) | refine Below.then ?_ hb7 (by first | omega | (simp; done) | (simp; omega)) | refine Below.then ?_ hb6 (by first | omega | (simp; done) | (simp; omega)) | refine Below.then ?_ hb5 (by first | omega | (simp; done) | (simp; omega)) | refine Below.then ?_ hb4 (by first | omega | (simp; done) | (simp; omega)) | refine Below.then ?_ hb3 (by first | omega | (simp; done) | (simp; omega)) | refine Below.then ?_ hb2 (by first | omega | (simp; done) | (simp; omega)) | refine Below.then ?_ hb1 (by first | omega | (simp; done) | (simp; omega))))⟩
    · have hk : hOk x = false := by simp [hOk]; omega
      have e1 : hShape x = 0 := by simp [hShape, hk]
      have e2 : hMark x = 0 := by simp [hMark, hk]
      rw [e1, e2, hk]
      clear hk e1 e2 ha
      have hb' : 64 ≤ x / 8 := by omega
      clear hb
      go_enter Try.func126, Try.ntmps126
      go_wp2
      exact bodyPost_ret (v := .tuple #[.agg #[.int .i64 0, .int .i64 0], .bool false]) (by simp [results, Try.results126, go_sem]) rfl ⟨rfl, by (repeat (first | exact Below.refl _ _ | (with_reducible assumption) | refine Below.drew ?_ | refine Below.drewN' ?_ _ | refine Below.alloc ?_ (by first | omega | (simp; done) | (simp; omega)) _ | refine Below.setCell ?_ (by first | omega | (simp; done) | (simp; omega)) _ | refine Below.then ?_ hb9 (by first | omega | (simp; done) | (simp; omega)) | refine Below.then ?_ hb8 (by first | omega | (simp; done) | (simp; omega)) | refine Below.then ?_ hb7 (by first | omega | (simp; done) | (simp; omega)) | refine Below.then ?_ hb6 (by first | omega | (simp; done) | (simp; omega)) | refine Below.then ?_ hb5 (by first | omega | (simp; done) | (simp; omega)) | refine Below.then ?_ hb4 (by first | omega | (simp; done) | (simp; omega)) | refine Below.then ?_ hb3 (by first | omega | (simp; done) | (simp; omega)) | refine Below.then ?_ hb2 (by first | omega | (simp; done) | (simp; omega)) | refine Below.then ?_ hb1 (by first | omega | (simp; done) | (simp; omega))))⟩
  · have hk : hOk x = false := by simp [hOk]; omega
    have e1 : hShape x = 0 := by simp [hShape, hk]
    have e2 : hMark x = 0 := by simp [hMark, hk]
    rw [e1, e2, hk]
    clear hk e1 e2
    have b1 : (x % 8 != 6) = true := by simp [ha]
    clear ha
    go_enter Try.func126, Try.ntmps126
    go_wp2
    exact bodyPost_ret (v := .tuple #[.agg #[.int .i64 0, .int .i64 0], .bool false]) (by simp [results, Try.results126, go_sem]) rfl ⟨rfl, by (repeat (first | exact Below.refl _ _ | (with_reducible assumption) | refine Below.drew ?_ | refine Below.drewN' ?_ _ | refine Below.alloc ?_ (by first | omega | (simp; done) | (simp; omega)) _ | refine Below.setCell ?_ (by first | omega | (simp; done) | (simp; omega)) _ | refine Below.then ?_ hb9 (by first | omega | (simp; done) | (simp; omega)) | refine Below.then ?_ hb8 (by first | omega | (simp; done) | (simp; omega)) | refine Below.then ?_ hb7 (by first | omega | (simp; done) | (simp; omega)) | refine Below.then ?_ hb6 (by first | omega | (simp; done) | (simp; omega)) | refine Below.then ?_ hb5 (by first | omega | (simp; done) | (simp; omega)) | refine Below.then ?_ hb4 (by first | omega | (simp; done) | (simp; omega)) | refine Below.then ?_ hb3 (by first | omega | (simp; done) | (simp; omega)) | refine Below.then ?_ hb2 (by first | omega | (simp; done) | (simp; omega)) | refine Below.then ?_ hb1 (by first | omega | (simp; done) | (simp; omega))))⟩

theorem hOk_bounds {x : Int} (h0 : 0 ≤ x) (h : hOk x = true) : 0 ≤ hShape x ∧ hShape x < 16 ∧ 0 ≤ hMark x ∧ hMark x ≤ 2 ∧ x = hWord (hShape x) (hMark x) := by
  have h' := h
  simp only [hOk, decide_eq_true_eq] at h'
  simp only [hShape, hMark, h, if_true, hWord]
  omega
theorem right_of {x m : Int} (h0 : 0 ≤ x) (h : hOk x = true) : rightB (hShape x) m = markB m := by
  have := hOk_bounds h0 h
  rw [Bool.eq_iff_iff]
  simp [rightB, markB]; omega

end Go.Proofs.Ytafenndokmccoaa
