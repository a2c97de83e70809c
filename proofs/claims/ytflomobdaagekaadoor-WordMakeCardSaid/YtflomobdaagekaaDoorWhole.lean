/- The layer 'word': is a text a whole number's? -/
import Derived.Test.YtflomobdaagekaaDoorKit
import Derived.Test.YtflomobdaagekaaDoorLib
import Derived.Laws.RangeAny
import Derived.LoopTactic
namespace Go.Proofs.YtflomobdaagekaaDoor
open Go.RowKit
set_option linter.unusedVariables false
set_option linter.unusedSimpArgs false

def digOk (c : UInt8) : Bool := decide (48 ≤ c.toNat ∧ c.toNat ≤ 57)
def digsOf (s : ByteArray) : List UInt8 := Lib.trimPrefix s.data.toList [45]
def wholeB (s : ByteArray) : Bool := (digsOf s).all digOk && (!(digsOf s).isEmpty && ((digsOf s).head? != some 48 || s.toList == [48]))

theorem dig_take (s : ByteArray) (k : Nat) (h : k < s.size) (ha : (s.data.toList.take k).all digOk = true) (hb : digOk s[k] = true) : (s.data.toList.take (k + 1)).all digOk = true := by
  rw [List.take_succ_eq_append_getElem (by simpa using h)]
  rw [List.all_append, ha]
  simp
  exact hb
theorem dig_not (s : ByteArray) (k : Nat) (h : k < s.size) (hb : digOk s[k] = false) : s.data.toList.all digOk = false := by
  rw [List.all_eq_false]
  exact ⟨s[k], by show s.data[k] ∈ _; simp, by simp [hb]⟩
theorem dig_rune (s : ByteArray) (k : Nat) (h : k < s.size) (hb : digOk s[k] = true) : 48 ≤ ((Utf8.decode s k).1 : Int) ∧ ((Utf8.decode s k).1 : Int) ≤ 57 ∧ (Utf8.decode s k).2 = 1 := by
  have hc : 48 ≤ s[k].toNat ∧ s[k].toNat ≤ 57 := by simpa [digOk] using hb
  rw [decode_ascii s k h (by omega)]
  exact ⟨by simp; omega, by simp; omega, rfl⟩
theorem dig_bad (s : ByteArray) (k : Nat) (h : k < s.size) (hb : digOk s[k] = false) : ((Utf8.decode s k).1 : Int) < 48 ∨ 57 < ((Utf8.decode s k).1 : Int) := by
  by_cases ha : s[k].toNat < 128
  · rw [decode_ascii s k h ha]
    have hc : ¬ (48 ≤ s[k].toNat ∧ s[k].toNat ≤ 57) := by simpa [digOk] using hb
    simp only
    omega
  · have := (decode_high s k h (by omega)).1
    omega

set_option maxHeartbeats 800000 in
theorem whole_calls (s : ByteArray) (w : World) :
    Calls Tryd.prog 39 #[.string s] w fun e w' => e = .returned (.bool (wholeB s)) ∧ Below w.heap.size w w' := by
  obtain ⟨D, hD⟩ : ∃ D : ByteArray, (⟨(Lib.trimPrefix s.data.toList (⟨#[45]⟩ : ByteArray).data.toList).toArray⟩ : ByteArray) = D := ⟨_, rfl⟩
  have hDl : D.data.toList = digsOf s := by rw [← hD]; rfl
  have HT := Lib.hid (fun W => Tryd.strings_TrimPrefix s ⟨#[45]⟩ W)
  rw [hD] at HT
  have HD := Lib.hid hDl
  clear hDl hD
  go_enter Tryd.func39, Tryd.ntmps39
  go_wp2_with fail
  refine (HT.out _).mono ?_
  rintro e w1 ⟨rfl, rfl⟩
  go_wp2
  go_loopw [] (fun wr => ∃ pos : Nat, pos ≤ D.size ∧ wr = w1.iter D pos ∧ Hid ((D.data.toList.take pos).all digOk = true)) (fun wr => D.size - wr.iterPos w1.heap.size)
  case atStart => exact ⟨0, Nat.zero_le _, rfl, Lib.hid (by simp)⟩
  case round =>
    obtain ⟨pos, hp, rfl, hall⟩ := hrel
    by_cases hlt : pos < D.size
    · cases hk : digOk D[pos] with
      | true =>
        obtain ⟨r1, r2, r3⟩ := dig_rune D pos hlt hk
        have hnx : ∀ ty, (Instr.next (.pointer (some ⟨w1.heap.size, 0, none⟩)) true ty).run Tryd.prog (w1.iter D pos) = _ := fun ty => run_next_any w1 D pos ty hlt
        rw [r3] at hnx
        have hall' := Lib.hid (dig_take D pos hlt hall.out hk)
        clear hk hall r3
        go_wp2
        go_roundw
        case rel => exact ⟨pos + 1, by omega, rfl, hall'⟩
        case measure => simp; omega
      | false =>
        have r1 := dig_bad D pos hlt hk
        have hnx : ∀ ty, (Instr.next (.pointer (some ⟨w1.heap.size, 0, none⟩)) true ty).run Tryd.prog (w1.iter D pos) = _ := fun ty => run_next_any w1 D pos ty hlt
        have hf : wholeB s = false := by
          unfold wholeB; rw [← HD.out, dig_not D pos hlt hk]; rfl
        have HF := Lib.hid hf
        clear hk hall hf
        rcases r1 with r1 | r1
        · go_wp2
          go_ret
          exact ⟨by rw [HF.out]; rfl, (Below.refl _ _).alloc (Nat.le_refl _) _⟩
        · have r0 : ¬ ((Utf8.decode D pos).1 : Int) < 48 := by omega
          go_wp2
          go_ret
          exact ⟨by rw [HF.out]; rfl, (Below.refl _ _).alloc (Nat.le_refl _) _⟩
    · have hnx : ∀ ty, (Instr.next (.pointer (some ⟨w1.heap.size, 0, none⟩)) true ty).run Tryd.prog (w1.iter D pos) = _ := fun ty => run_next_end w1 D pos ty hlt
      obtain rfl : pos = D.size := by omega
      have ho : D.data.toList.all digOk = true := by
        have := hall.out
        rwa [List.take_of_length_le (by simp)] at this
      have HO := Lib.hid ho
      clear ho hall hlt
      by_cases h0 : D.size = 0
      · have HZ := Lib.hid h0
        have e0 : D.data.toList = [] := List.eq_nil_of_length_eq_zero (by simpa using h0)
        have e1 : D.toList = [] := by rw [ByteArray.toList_eq, e0]
        have e2 : (!D.toList.isEmpty) = false := by simp [e1]
        have HW := Lib.hid (show wholeB s = false by unfold wholeB; rw [← HD.out, e0]; rfl)
        clear h0 e0
        go_wp2
        go_ret
        exact ⟨by rw [HW.out]; rfl, (Below.refl _ _).alloc (Nat.le_refl _) _⟩
      · have hpos : 0 < D.size := by omega
        have e1 : D.data.toList.isEmpty = false := by
          rw [List.isEmpty_eq_false_iff]; intro h; have := congrArg List.length h; rw [Array.length_toList, List.length_nil] at this; exact h0 this
        have e3 : ¬ D.toList = [] := by rw [ByteArray.toList_eq]; exact List.isEmpty_eq_false_iff.1 e1
        have e2 : (!D.toList.isEmpty) = true := by rw [ByteArray.toList_eq, e1]; rfl
        have hw : wholeB s = (D.data.toList.head? != some 48 || s.toList == [48]) := by unfold wholeB; rw [← HD.out, HO.out, e1]; rfl
        have hh : D.data.toList.head? = some D[0] := by
          rw [List.head?_eq_getElem?, List.getElem?_eq_getElem (by simpa using hpos)]; rfl
        rw [hh] at hw
        by_cases h48 : D[0] = 48
        · have b1 : (D[0].toNat : Int) = 48 := by rw [h48]; rfl
          have hw2 : wholeB s = (s.toList == [48]) := by rw [hw, h48]; simp
          have HW := Lib.hid hw2
          clear h0 hw hh h48 hw2 e1
          have b2 : ((D[0].toNat : Int) != 48) = false := by rw [b1]; rfl
          go_wp2
          go_ret
          exact ⟨by rw [HW.out]; simp [*], (Below.refl _ _).alloc (Nat.le_refl _) _⟩
        · have b1 : ¬ (D[0].toNat : Int) = 48 := by
            intro h; apply h48; apply UInt8.toNat_inj.1; simp; omega
          have b2 : ((D[0].toNat : Int) != 48) = true := by rw [bne_iff_ne]; exact b1
          have hw2 : wholeB s = true := by rw [hw]; simp [h48]
          have HW := Lib.hid hw2
          clear h0 hw hh h48 hw2 e1
          go_wp2
          go_ret
          exact ⟨by rw [HW.out]; simp [*], (Below.refl _ _).alloc (Nat.le_refl _) _⟩

end Go.Proofs.YtflomobdaagekaaDoor
