/- The layer 'shape' and its reference: the greatest size. -/
import Derived.Test.YtcdfhceohjhogaaDoorShapeRef
namespace Go.Proofs.YtcdfhceohjhogaaDoor
open Go.RowKit
set_option linter.unusedVariables false
set_option linter.unusedSimpArgs false

def mostTo (ss : List ByteArray) (k : Nat) : Nat := (ss.take k).foldl (fun n s => max n (2 + s.size)) 0
def mostN (ss : List ByteArray) : Nat := mostTo ss ss.length
def mostM (ss : List ByteArray) : Nat := if tableB ss = true then mostN ss else 0
theorem mostTo_succ (ss : List ByteArray) (k : Nat) (h : k < ss.length) : mostTo ss (k + 1) = max (mostTo ss k) (2 + ss[k].size) := by
  unfold mostTo; rw [List.take_succ_eq_append_getElem h, List.foldl_append]; rfl
theorem mostTo_small (ss : List ByteArray) (m : Nat) (h : ∀ s ∈ ss, s.size ≤ m) (k : Nat) (hk : k ≤ ss.length) : mostTo ss k ≤ 2 + m := by
  induction k with
  | zero => simp [mostTo]
  | succ k ih =>
    rw [mostTo_succ ss k (by omega)]
    have := h ss[k] (List.getElem_mem (by omega))
    have := ih (by omega)
    omega

theorem most_step (x y : Nat) : Value.int .i64 (if (x : Int) < 2 + (y : Int) then 2 + (y : Int) else (x : Int)) = .int .i64 ((max x (2 + y) : Nat) : Int) := by
  congr 1
  split <;> omega

set_option maxHeartbeats 800000 in
theorem mostFn_calls (a : Option Addr) (c : Nat) (ss : List ByteArray) (ht : tableB ss = true) (B : Nat) (w : World) (h : SlOf w a (strV ss)) (_hB : B < w.heap.size) (hbx : w.cell? ⟨B, 0, none⟩ = some (.slice a ss.length c)) :
    Calls Tryd.prog 69 #[.pointer (some ⟨B, 0, none⟩)] w fun e w' => e = .returned (.int .i64 (mostN ss)) ∧ Below w.heap.size w w' := by
  have HS := Lib.hid h
  have hlen := table_len ht
  clear h
  go_enter Tryd.func69, Tryd.ntmps69
  go_wp2
  go_loopw [2, 7] (fun n i wr => ∃ k : Nat, k ≤ ss.length ∧ i = .int .i64 k ∧ n = .int .i64 (mostTo ss k) ∧ Below w.heap.size w wr) (fun _ i _ => ss.length - (intOf i).toNat)
  case atStart => exact ⟨0, Nat.zero_le _, rfl, rfl, Below.refl _ _⟩
  case round =>
    obtain ⟨k, hk, rfl, rfl, hBe⟩ := hrel
    have hzB := hBe.size
    by_cases hlt : k < ss.length
    · rcases HS.out.below hBe with h0 | ⟨b, o, rfl, hbl, hcell⟩
      · have := congrArg List.length h0; rw [strV_len, List.length_nil] at this; omega
      have hcx := hcell k (by rw [strV_len]; exact hlt)
      rw [strV_get ss k hlt] at hcx
      clear hcell
      have hsz := shape_size (table_at ht k hlt)
      have hm := mostTo_small ss 8 (fun s hs => by obtain ⟨j, hj, rfl⟩ := List.mem_iff_getElem.1 hs; exact shape_size (table_at ht j hj)) k hk
      have hs := mostTo_succ ss k hlt
      have HM := Lib.hid hs
      clear hs
      go_wp2
      go_roundw
      case rel => exact ⟨k + 1, by omega, by go_num, by rw [HM.out]; exact most_step _ _, hBe⟩
      case measure => simp [intOf]; omega
    · obtain rfl : k = ss.length := by omega
      go_wp2
      go_ret
      exact ⟨rfl, hBe⟩

set_option maxHeartbeats 800000 in
theorem most_calls (a : Option Addr) (c : Nat) (ss : List ByteArray) (hn : ss.length ≤ maxLen) (w : World) (h : SlOf w a (strV ss)) :
    Calls Tryd.prog 47 #[.slice a ss.length c] w fun e w' => e = .returned (.tuple #[.int .i64 (mostM ss), .int .i64 (checkE ss)]) ∧ Below w.heap.size w w' := by
  have HS := Lib.hid h
  have hck := fun w h => check_calls a c ss hn w h
  clear h
  cases ht : tableB ss with
  | true =>
    have e1 : checkE ss = 0 := by simp [checkE, ht]
    have e2 : mostM ss = mostN ss := by simp [mostM, ht]
    have htx := fun B w h hB hbx => mostFn_calls a c ss ht B w h hB hbx
    rw [e1] at hck ⊢
    rw [e2]
    have HC := Lib.hid hck
    have HT := Lib.hid htx
    clear hck htx e1 e2 ht
    go_enter Tryd.func47, Tryd.ntmps47
    go_wp2_with fail
    refine (HC.out _ (HS.out.alloc _)).mono ?_; rintro e1 w1 ⟨rfl, hb1⟩; obtain ⟨hc1, hf1⟩ := bcell hb1; have hz1 := hb1.size; (try simp at hz1)
    go_wp2_with (go_at_call 62; go_in)
    refine (HT.out w.heap.size _ ((HS.out.alloc _).below hb1) (by omega) ((hb1.cell (p := ⟨w.heap.size, 0, none⟩) (by simp)).trans (by simp))).mono ?_; rintro e2 w2 ⟨rfl, hb2⟩; obtain ⟨hc2, hf2⟩ := bcell hb2; have hz2 := hb2.size; (try simp at hz2)
    go_wp2
    go_ret2
    exact ⟨rfl, by (repeat (first | exact Below.refl _ _ | (with_reducible assumption) | refine Below.drew ?_ | refine Below.drewN' ?_ _ | refine Below.alloc ?_ (by first | omega | (simp; done) | (simp; omega)) _ | refine Below.setCell ?_ (by first | omega | (simp; done) | (simp; omega)) _ | refine Below.then ?_ hb9 (by first | omega | (simp; done) | (simp; omega)) | refine Below.then ?_ hb8 (by first | omega | (simp; done) | (simp; omega)) | refine Below.then ?_ hb7 (by first | omega | (simp; done) | (simp; omega)) | refine Below.then ?_ hb6 (by first | omega | (simp; done) | (simp; omega)) | refine Below.then ?_ hb5 (by first | omega | (simp; done) | (simp; omega)) | refine Below.then ?_ hb4 (by first | omega | (simp; done) | (simp; omega)) | refine Below.then ?_ hb3 (by first | omega | (simp; done) | (simp; omega)) | refine Below.then ?_ hb2 (by first | omega | (simp; done) | (simp; omega)) | refine Below.then ?_ hb1 (by first | omega | (simp; done) | (simp; omega))))⟩
  | false =>
    have e1 : checkE ss = 2 := by simp [checkE, ht]
    have e2 : mostM ss = 0 := by simp [mostM, ht]
    rw [e1] at hck ⊢
    rw [e2]
    have HC := Lib.hid hck
    clear hck e1 e2 ht
    go_enter Tryd.func47, Tryd.ntmps47
    go_wp2_with fail
    refine (HC.out _ (HS.out.alloc _)).mono ?_; rintro e1 w1 ⟨rfl, hb1⟩; obtain ⟨hc1, hf1⟩ := bcell hb1; have hz1 := hb1.size; (try simp at hz1)
    go_wp2_with (go_at_call 62; go_in)
    go_ret2
    exact ⟨rfl, by (repeat (first | exact Below.refl _ _ | (with_reducible assumption) | refine Below.drew ?_ | refine Below.drewN' ?_ _ | refine Below.alloc ?_ (by first | omega | (simp; done) | (simp; omega)) _ | refine Below.setCell ?_ (by first | omega | (simp; done) | (simp; omega)) _ | refine Below.then ?_ hb9 (by first | omega | (simp; done) | (simp; omega)) | refine Below.then ?_ hb8 (by first | omega | (simp; done) | (simp; omega)) | refine Below.then ?_ hb7 (by first | omega | (simp; done) | (simp; omega)) | refine Below.then ?_ hb6 (by first | omega | (simp; done) | (simp; omega)) | refine Below.then ?_ hb5 (by first | omega | (simp; done) | (simp; omega)) | refine Below.then ?_ hb4 (by first | omega | (simp; done) | (simp; omega)) | refine Below.then ?_ hb3 (by first | omega | (simp; done) | (simp; omega)) | refine Below.then ?_ hb2 (by first | omega | (simp; done) | (simp; omega)) | refine Below.then ?_ hb1 (by first | omega | (simp; done) | (simp; omega))))⟩

set_option maxHeartbeats 800000 in
theorem refMost_calls (a : Option Addr) (c : Nat) (ss : List ByteArray) (ht : tableB ss = true) (w : World) (h : SlOf w a (strV ss)) :
    Calls Tryd.prog 49 #[.slice a ss.length c] w fun e w' => e = .returned (.int .i64 (mostN ss)) ∧ Below w.heap.size w w' := by
  have HS := Lib.hid h
  have hlen := table_len ht
  clear h
  go_enter Tryd.func49, Tryd.ntmps49
  go_wp2
  go_loopw [3, 4] (fun n i wr => ∃ k : Nat, k ≤ ss.length ∧ i = .int .i64 k ∧ n = .int .i64 (mostTo ss k) ∧ Below w.heap.size w wr) (fun _ i _ => ss.length - (intOf i).toNat)
  case atStart => exact ⟨0, Nat.zero_le _, rfl, rfl, by (repeat (first | exact Below.refl _ _ | (with_reducible assumption) | refine Below.drew ?_ | refine Below.drewN' ?_ _ | refine Below.alloc ?_ (by first | omega | (simp; done) | (simp; omega)) _ | refine Below.setCell ?_ (by first | omega | (simp; done) | (simp; omega)) _ | refine Below.then ?_ hb9 (by first | omega | (simp; done) | (simp; omega)) | refine Below.then ?_ hb8 (by first | omega | (simp; done) | (simp; omega)) | refine Below.then ?_ hb7 (by first | omega | (simp; done) | (simp; omega)) | refine Below.then ?_ hb6 (by first | omega | (simp; done) | (simp; omega)) | refine Below.then ?_ hb5 (by first | omega | (simp; done) | (simp; omega)) | refine Below.then ?_ hb4 (by first | omega | (simp; done) | (simp; omega)) | refine Below.then ?_ hb3 (by first | omega | (simp; done) | (simp; omega)) | refine Below.then ?_ hb2 (by first | omega | (simp; done) | (simp; omega)) | refine Below.then ?_ hb1 (by first | omega | (simp; done) | (simp; omega))))⟩
  case round =>
    obtain ⟨k, hk, rfl, rfl, hBe⟩ := hrel
    have hzB := hBe.size
    by_cases hlt : k < ss.length
    · rcases HS.out.below hBe with h0 | ⟨b, o, rfl, hbl, hcell⟩
      · have := congrArg List.length h0; rw [strV_len, List.length_nil] at this; omega
      have hcx := hcell k (by rw [strV_len]; exact hlt)
      rw [strV_get ss k hlt] at hcx
      clear hcell
      have hsz := shape_size (table_at ht k hlt)
      have hm := mostTo_small ss 8 (fun s hs => by obtain ⟨j, hj, rfl⟩ := List.mem_iff_getElem.1 hs; exact shape_size (table_at ht j hj)) k hk
      have hs := mostTo_succ ss k hlt
      have HM := Lib.hid hs
      clear hs
      go_wp2
      go_roundw
      case rel => exact ⟨k + 1, by omega, by go_num, by rw [HM.out]; exact most_step _ _, hBe⟩
      case measure => simp [intOf]; omega
    · obtain rfl : k = ss.length := by omega
      go_wp2
      go_ret
      exact ⟨rfl, hBe⟩

end Go.Proofs.YtcdfhceohjhogaaDoor
