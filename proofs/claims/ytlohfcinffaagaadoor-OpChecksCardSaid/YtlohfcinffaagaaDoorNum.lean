/- The reference's numbers as texts. -/
import Derived.Test.YtlohfcinffaagaaDoorKit
import Derived.Lib.ItoaNum
import Derived.LoopTactic
import Derived.Lib.ConvBytes
namespace Go.Proofs.YtlohfcinffaagaaDoor
open Go.RowKit
set_option linter.unusedVariables false
set_option linter.unusedSimpArgs false

def decS (u : Nat) : ByteArray := ⟨(Lib.decDigits u).toArray⟩
theorem decDigits_step (u : Nat) (l : List UInt8) (h : ¬ u < 10) : Lib.decDigits u ++ l = Lib.decDigits (u / 10) ++ (UInt8.ofNat (48 + u % 10) :: l) := by
  conv => lhs; rw [Lib.decDigits, dif_neg h]
  simp
theorem decDigits_last (u : Nat) (l : List UInt8) (h : u < 10) : Lib.decDigits u ++ l = UInt8.ofNat (48 + u % 10) :: l := by
  rw [Lib.decDigits, dif_pos h, Nat.mod_eq_of_lt h]
  simp

theorem nDigits_le20 (u : Nat) (hu : u < 18446744073709551616) : Lib.nDigits u ≤ 20 := by
  by_cases h : 1 ≤ u
  · have := Lib.numDigits_eq u h hu
    split at this <;> omega
  · rw [Lib.nDigits_small (by omega)]
    omega

/-- a text of one byte, out of a new slice of one place -/
theorem run_one_byte (W : World) (x : Int) :
    (convert 112 9 (.slice (some ⟨W.heap.size, 0, none⟩) 1 1)).run Tryd.prog (W.alloc (.cells #[.int .u8 x] 5)) = .ok (.string ⟨#[UInt8.ofNat x.toNat]⟩) (W.alloc (.cells #[.int .u8 x] 5)) := by
  rw [run_convert_bytes_string _ _ _ _ _ _ _ Tryd.underlying112 Tryd.underlying5 Tryd.underlying9, run_bytesToString _ _ 1 1 [x] (by simp [loadCells, go_sem])]
  rfl

set_option maxRecDepth 100000 in
set_option maxHeartbeats 800000 in
theorem digits_calls (u : Nat) (hu : u < 18446744073709551616) (w : World) :
    Calls Tryd.prog 63 #[.int .u64 u] w fun e w' => e = .returned (.string (decS u)) ∧ Below w.heap.size w w' := by
  go_enter Tryd.func63, Tryd.ntmps63
  go_wp2
  go_loopw [0, 3] (fun n s wr => ∃ (m : Nat) (l : List UInt8), m < 18446744073709551616 ∧ n = .int .u64 m ∧ s = .string ⟨l.toArray⟩ ∧ Below w.heap.size w wr ∧ Hid (Lib.decDigits m ++ l = Lib.decDigits u)) (fun n _ _ => (intOf n).toNat)
  case atStart => exact ⟨u, [], hu, rfl, rfl, Below.refl _ _, Lib.hid (by simp)⟩
  case round =>
    obtain ⟨m, l, hm, rfl, rfl, hB, hall⟩ := hrel
    have hzB := hB.size
    have hcv := run_one_byte wr
    have hlen : l.length ≤ 20 := by
      have h1 := congrArg List.length hall.out
      rw [List.length_append, Lib.decDigits_length, Lib.decDigits_length] at h1
      have := nDigits_le20 u hu
      omega
    by_cases hlt : m < 10
    · have b1 : (((m : Int) / 10) == 0) = true := by simp; omega
      have hfin := hall.out
      rw [decDigits_last m l hlt] at hfin
      have HF := Lib.hid hfin
      clear hfin hall
      go_wp2
      go_ret
      exact ⟨by unfold decS; rw [← HF.out]; simp; rfl, by (repeat (first | exact Below.refl _ _ | (with_reducible assumption) | refine Below.drew ?_ | refine Below.drewN' ?_ _ | refine Below.alloc ?_ (by first | omega | (simp; done) | (simp; omega)) _ | refine Below.setCell ?_ (by first | omega | (simp; done) | (simp; omega)) _ | refine Below.then ?_ hb9 (by first | omega | (simp; done) | (simp; omega)) | refine Below.then ?_ hb8 (by first | omega | (simp; done) | (simp; omega)) | refine Below.then ?_ hb7 (by first | omega | (simp; done) | (simp; omega)) | refine Below.then ?_ hb6 (by first | omega | (simp; done) | (simp; omega)) | refine Below.then ?_ hb5 (by first | omega | (simp; done) | (simp; omega)) | refine Below.then ?_ hb4 (by first | omega | (simp; done) | (simp; omega)) | refine Below.then ?_ hb3 (by first | omega | (simp; done) | (simp; omega)) | refine Below.then ?_ hb2 (by first | omega | (simp; done) | (simp; omega)) | refine Below.then ?_ hb1 (by first | omega | (simp; done) | (simp; omega))))⟩
    · have b1 : (((m : Int) / 10) == 0) = false := by simp; omega
      have hfin := hall.out
      rw [decDigits_step m l hlt] at hfin
      have HF := Lib.hid hfin
      clear hfin hall
      go_wp2
      go_roundw
      case rel => exact ⟨m / 10, _, by omega, by simp, by simp; rfl, by (repeat (first | exact Below.refl _ _ | (with_reducible assumption) | refine Below.drew ?_ | refine Below.drewN' ?_ _ | refine Below.alloc ?_ (by first | omega | (simp; done) | (simp; omega)) _ | refine Below.setCell ?_ (by first | omega | (simp; done) | (simp; omega)) _ | refine Below.then ?_ hb9 (by first | omega | (simp; done) | (simp; omega)) | refine Below.then ?_ hb8 (by first | omega | (simp; done) | (simp; omega)) | refine Below.then ?_ hb7 (by first | omega | (simp; done) | (simp; omega)) | refine Below.then ?_ hb6 (by first | omega | (simp; done) | (simp; omega)) | refine Below.then ?_ hb5 (by first | omega | (simp; done) | (simp; omega)) | refine Below.then ?_ hb4 (by first | omega | (simp; done) | (simp; omega)) | refine Below.then ?_ hb3 (by first | omega | (simp; done) | (simp; omega)) | refine Below.then ?_ hb2 (by first | omega | (simp; done) | (simp; omega)) | refine Below.then ?_ hb1 (by first | omega | (simp; done) | (simp; omega)))), HF⟩
      case measure => simp [intOf]; omega

def numS (n : Int) : ByteArray := ⟨(Lib.itoa n).toArray⟩
theorem numS_pos {n : Nat} : numS n = decS n := by unfold numS decS Lib.itoa; rw [if_neg (by omega)]; rfl
theorem numS_neg {n : Int} (h : n < 0) : numS n = ⟨#[45]⟩ ++ decS n.natAbs := by
  unfold numS decS Lib.itoa
  rw [if_pos h]
  exact (ByteArray.mk_append_mk [45] _).symm

theorem decS_size (u : Nat) (hu : u < 18446744073709551616) : (decS u).size ≤ 20 := by
  show ((Lib.decDigits u).toArray).size ≤ 20
  rw [List.size_toArray, Lib.decDigits_length]
  exact nDigits_le20 u hu

set_option maxHeartbeats 800000 in
theorem number_calls (n : Int) (h0 : -9223372036854775808 ≤ n) (h1 : n ≤ 9223372036854775807) (w : World) :
    Calls Tryd.prog 37 #[.int .i64 n] w fun e w' => e = .returned (.string (numS n)) ∧ Below w.heap.size w w' := by
  by_cases h : n < 0
  · rw [numS_neg h]
    obtain ⟨m, hm⟩ : ∃ m : Nat, m = n.natAbs := ⟨_, rfl⟩
    rw [← hm]
    have hnm : n = -(m : Int) := by omega
    subst hnm
    clear hm
    have hs := decS_size m (by omega)
    have HC := Lib.hid (fun w => digits_calls m (by omega) w)
    go_enter Tryd.func37, Tryd.ntmps37
    go_wp2_with fail
    rw [show (-(-(m : Int) + 1) + 1) = (m : Int) from by omega]
    refine (HC.out _).mono ?_; rintro e1 w1 ⟨rfl, hb1⟩; obtain ⟨hc1, hf1⟩ := bcell hb1; have hz1 := hb1.size; (try simp at hz1)
    go_wp2
    go_ret
    exact ⟨rfl, by (repeat (first | exact Below.refl _ _ | (with_reducible assumption) | refine Below.drew ?_ | refine Below.drewN' ?_ _ | refine Below.alloc ?_ (by first | omega | (simp; done) | (simp; omega)) _ | refine Below.setCell ?_ (by first | omega | (simp; done) | (simp; omega)) _ | refine Below.then ?_ hb9 (by first | omega | (simp; done) | (simp; omega)) | refine Below.then ?_ hb8 (by first | omega | (simp; done) | (simp; omega)) | refine Below.then ?_ hb7 (by first | omega | (simp; done) | (simp; omega)) | refine Below.then ?_ hb6 (by first | omega | (simp; done) | (simp; omega)) | refine Below.then ?_ hb5 (by first | omega | (simp; done) | (simp; omega)) | refine Below.then ?_ hb4 (by first | omega | (simp; done) | (simp; omega)) | refine Below.then ?_ hb3 (by first | omega | (simp; done) | (simp; omega)) | refine Below.then ?_ hb2 (by first | omega | (simp; done) | (simp; omega)) | refine Below.then ?_ hb1 (by first | omega | (simp; done) | (simp; omega))))⟩
  · obtain ⟨m, rfl⟩ := Int.eq_ofNat_of_zero_le (show 0 ≤ n by omega)
    rw [numS_pos]
    have HC := Lib.hid (fun w => digits_calls m (by omega) w)
    go_enter Tryd.func37, Tryd.ntmps37
    go_wp2_with fail
    refine (HC.out _).mono ?_; rintro e1 w1 ⟨rfl, hb1⟩; obtain ⟨hc1, hf1⟩ := bcell hb1; have hz1 := hb1.size; (try simp at hz1)
    go_wp2
    go_ret
    exact ⟨rfl, by (repeat (first | exact Below.refl _ _ | (with_reducible assumption) | refine Below.drew ?_ | refine Below.drewN' ?_ _ | refine Below.alloc ?_ (by first | omega | (simp; done) | (simp; omega)) _ | refine Below.setCell ?_ (by first | omega | (simp; done) | (simp; omega)) _ | refine Below.then ?_ hb9 (by first | omega | (simp; done) | (simp; omega)) | refine Below.then ?_ hb8 (by first | omega | (simp; done) | (simp; omega)) | refine Below.then ?_ hb7 (by first | omega | (simp; done) | (simp; omega)) | refine Below.then ?_ hb6 (by first | omega | (simp; done) | (simp; omega)) | refine Below.then ?_ hb5 (by first | omega | (simp; done) | (simp; omega)) | refine Below.then ?_ hb4 (by first | omega | (simp; done) | (simp; omega)) | refine Below.then ?_ hb3 (by first | omega | (simp; done) | (simp; omega)) | refine Below.then ?_ hb2 (by first | omega | (simp; done) | (simp; omega)) | refine Below.then ?_ hb1 (by first | omega | (simp; done) | (simp; omega))))⟩

end Go.Proofs.YtlohfcinffaagaaDoor
