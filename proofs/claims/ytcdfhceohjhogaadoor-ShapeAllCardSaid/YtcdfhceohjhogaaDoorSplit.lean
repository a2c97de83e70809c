/- The library's strings.SplitSeq at one blank: an iterator that keeps what is left in a cell of its own. -/
import Derived.Test.YtcdfhceohjhogaaDoorSplitL
import Derived.Test.YtcdfhceohjhogaaDoorRange
import Derived.Test.YtcdfhceohjhogaaDoorShelf
import Derived.Shelf.Abstract
import Derived.Shelf.RegionOpen
import Derived.OwnWalkIn
import Derived.TacticsInMore
import Derived.LoopNIn
import Derived.LoopIn
import Derived.RangeFuncBox
namespace Go.Proofs.YtcdfhceohjhogaaDoor
open Go.RowKit Go.Shelf
set_option linter.unusedVariables false
set_option linter.unusedSimpArgs false
attribute [local go_sem] Oper.semAt_some

set_option maxHeartbeats 400000 in
theorem splitSeq_calls (s : ByteArray) (w : World) :
    Calls Tryd.prog 68 #[.string s, .string ⟨#[32]⟩] w fun e w' =>
      e = .returned (.func (.func 81) #[] #[.pointer (some ⟨w.heap.size + 1, 0, none⟩), .pointer (some ⟨w.heap.size, 0, none⟩), .pointer (some ⟨w.heap.size + 2, 0, none⟩)]) ∧
      ((w.alloc (.cells #[.string s] 9)).alloc (.cells #[.string ⟨#[32]⟩] 9)).alloc (.cells #[.int .i64 0] 3) = w' := by
  go_enter Tryd.func68, Tryd.ntmps68
  go_wp2
  go_ret
  exact ⟨rfl, rfl⟩

/-- the iterator's own step: what is left is written into its cell -/
def SplitG (B : Nat) (A A' : World) : Prop := ∃ v, A' = A.setCell ⟨B, 0, none⟩ v
def SplitK (B : Nat) (A A' : World) : Prop := A.heap.size ≤ A'.heap.size ∧ ∀ k, k = B ∨ k = B + 1 ∨ k = B + 2 → A'.heap[k]? = A.heap[k]?
def pieceEnc (x : List UInt8) : Array Value := #[.string ⟨x.toArray⟩]
def leftOver (B : Nat) (w : World) : Nat := match w.cell? ⟨B, 0, none⟩ with | some (.string s) => s.size | _ => 0

theorem cell_of_heap {A A' : World} {k o : Nat} {v : Value} (h : A'.heap[k]? = A.heap[k]?) (hc : A.cell? ⟨k, o, none⟩ = some v) : A'.cell? ⟨k, o, none⟩ = some v :=
  (World.cell?_of_block (w := A) h).trans hc
theorem frozen_of_heap {A A' : World} {k o : Nat} {b : Bool} (h : A'.heap[k]? = A.heap[k]?) (hc : A.frozen? ⟨k, o, none⟩ = b) : A'.frozen? ⟨k, o, none⟩ = b :=
  (World.frozen?_of_block (w := A) h).trans hc
theorem setCell_grown (W : World) (a : Addr) (v : Value) : W.grownBy (W.setCell a v) (some a.block) :=
  ⟨rfl, rfl, rfl, (KeepsWalks.setCell W a v).size, fun k _ hk => Below.heap_setCell W a v k (fun e => hk (by rw [e]))⟩

theorem extract_take (r : List UInt8) (j : Nat) : (⟨r.toArray⟩ : ByteArray).extract 0 j = ⟨(r.take j).toArray⟩ := by
  have h : ((⟨r.toArray⟩ : ByteArray).extract 0 j).data = (r.take j).toArray := by simp
  exact congrArg ByteArray.mk h
theorem extract_drop (r : List UInt8) (j : Nat) : (⟨r.toArray⟩ : ByteArray).extract j r.length = ⟨(r.drop j).toArray⟩ := by
  have h : ((⟨r.toArray⟩ : ByteArray).extract j r.length).data = (r.drop j).toArray := by
    simp
    exact List.take_of_length_le (by simp)
  exact congrArg ByteArray.mk h

theorem extract_drop' (r : List UInt8) (j : Nat) : (⟨r.toArray⟩ : ByteArray).extract j (⟨r.toArray⟩ : ByteArray).size = ⟨(r.drop j).toArray⟩ := extract_drop r j
set_option maxHeartbeats 3200000 in
theorem split_stops (n : Nat) (hn : 1 ≤ n) (l : List UInt8) (hl : l.length ≤ maxLen) (B : Nat) (w : World) (hB : B + 2 < w.heap.size) (hs : w.cell? ⟨B, 0, none⟩ = some (.string ⟨l.toArray⟩)) (hf : w.frozen? ⟨B, 0, none⟩ = false)
    (hp : w.cell? ⟨B + 1, 0, none⟩ = some (.string ⟨#[32]⟩)) (hv : w.cell? ⟨B + 2, 0, none⟩ = some (.int .i64 0)) :
    IterStops n Tryd.prog 81 #[.pointer (some ⟨B + 1, 0, none⟩), .pointer (some ⟨B, 0, none⟩), .pointer (some ⟨B + 2, 0, none⟩)] pieceEnc (SplitG B) (SplitK B) (fun xs => xs = splitSp l) (fun pre => pre <+: splitSp l) (splitSp l).length w := by
  unfold maxLen at hl
  intro L J Jx W hW hJ hJx hY h0
  have hsW := (hW.cell (p := ⟨B, 0, none⟩) (show B < _ by omega)).trans hs
  have hfW := (hW.frozen (p := ⟨B, 0, none⟩) (show B < _ by omega)).trans hf
  have hpW := (hW.cell (p := ⟨B + 1, 0, none⟩) (show B + 1 < _ by omega)).trans hp
  have hvW := (hW.cell (p := ⟨B + 2, 0, none⟩) (show B + 2 < _ by omega)).trans hv
  have HY := Lib.hid hY
  have HJ := Lib.hid hJ
  clear hY hJ hJx hs hf hp hv
  refine callsIn_of_wp Tryd.func81 rfl trivial ?_ rfl
  simp only [Tryd.ntmps81, List.size_toArray, List.length_cons, List.length_nil, Nat.reduceAdd, Nat.reduceSub, Array.replicate_succ, Array.replicate_zero, List.push_toArray, List.append_toArray, List.nil_append, List.cons_append]
  gi_wp2
  gi_loopw [] (fun wr => ∃ (pre : List (List UInt8)) (r : List UInt8), r.length ≤ l.length ∧ wr.cell? ⟨B, 0, none⟩ = some (.string ⟨r.toArray⟩) ∧ wr.frozen? ⟨B, 0, none⟩ = false ∧ wr.cell? ⟨B + 1, 0, none⟩ = some (.string ⟨#[32]⟩) ∧ wr.cell? ⟨B + 2, 0, none⟩ = some (.int .i64 0) ∧ Hid (pre ++ splitSp r = splitSp l) ∧ J pre wr) (fun wr => leftOver B wr)
  case atStart => exact ⟨[], l, Nat.le_refl _, hsW, hfW, hpW, hvW, Lib.hid rfl, h0⟩
  case round =>
    obtain ⟨pre, r, hr, hc, hcf, hcp, hcv, hall, hJp⟩ := hrel
    have hlo := index_lo r
    have hidx := fun w => Tryd.strings_Index_one ⟨r.toArray⟩ 32 w
    rw [show (⟨r.toArray⟩ : ByteArray).data.toList = r from by simp] at hidx
    obtain ⟨i, hi⟩ : ∃ i, Lib.indexByte r 32 = i := ⟨_, rfl⟩
    rw [hi] at hidx hlo
    have HX := Lib.hid hidx
    clear hidx
    by_cases hneg : i < 0
    · have hone := splitSp_no r (by omega)
      have hal := hall.out
      rw [hone] at hal
      have HA := Lib.hid hal
      obtain ⟨fn, tmps, assign, body, hy, hR⟩ := HY.out pre r wr hJp (by rw [← hal]; simp)
      unfold pieceEnc at hy
      clear hal hone hall hi
      gi_wp2_with fail
      refine ⟨trivial, (callsIn_wide.2 (HX.out _)).mono ?_⟩
      rintro e1 w1 ⟨rfl, rfl⟩
      gi_wp2
      refine hR.mono ?_
      rintro e W3 (⟨rfl, hJ4, hk4⟩ | ⟨rfl, hJx4⟩)
      · gi_wp2
        go_end0
        exact ⟨⟨_, rfl⟩, .inl ⟨_, HA.out, hJ4⟩⟩
      · gi_wp2
        go_end0
        exact ⟨⟨_, rfl⟩, .inr ⟨_, by rw [HA.out]; exact List.prefix_refl _, hJx4⟩⟩
    · obtain ⟨j, rfl⟩ := Int.eq_ofNat_of_zero_le (show 0 ≤ i by omega)
      have hat := splitSp_at r j hi
      have hal := hall.out
      rw [hat] at hal
      have HA := Lib.hid hal
      obtain ⟨fn, tmps, assign, body, hy, hR⟩ := HY.out pre (r.take j) wr hJp (by rw [← hal]; simp)
      unfold pieceEnc at hy
      rw [← extract_take] at hy
      have hsub := hlo.2
      have hrl : (⟨r.toArray⟩ : ByteArray).size = r.length := rfl
      clear hal hat hall hi
      gi_wp2_with fail
      refine ⟨trivial, (callsIn_wide.2 (HX.out _)).mono ?_⟩
      rintro e1 w1 ⟨rfl, rfl⟩
      gi_wp2
      refine hR.mono ?_
      rintro e W3 (⟨rfl, hJ4, hk4⟩ | ⟨rfl, hJx4⟩)
      · have c0 := cell_of_heap (hk4.2 B (.inl rfl)) hc
        have f0 := frozen_of_heap (hk4.2 B (.inl rfl)) hcf
        have c1 := cell_of_heap (hk4.2 (B + 1) (.inr (.inl rfl))) hcp
        have c2 := cell_of_heap (hk4.2 (B + 2) (.inr (.inr rfl))) hcv
        gi_wp2_with fail
        go_roundw
        case rel =>
          rw [← hrl, extract_drop' r (j + 1)]
          refine ⟨pre ++ [r.take j], r.drop (j + 1), by rw [List.length_drop]; omega, ?_, ?_, ?_, ?_, Lib.hid ?_, ?_⟩
          · exact World.cell?_setCell_same _ _ _ c0
          · rw [World.frozen?_setCell]; exact f0
          · exact (World.cell?_setCell_other _ _ _ _ (by simp)).trans c1
          · exact (World.cell?_setCell_other _ _ _ _ (by simp)).trans c2
          · rw [List.append_assoc]; exact HA.out
          · exact HJ.out _ _ _ hJ4 ⟨_, rfl⟩
        case measure =>
          have e1 : ∀ v, (W3.setCell ⟨B, 0, none⟩ v).cell? ⟨B, 0, none⟩ = some v := fun v => World.cell?_setCell_same _ _ _ c0
          simp only [leftOver, e1, hc]
          rw [← hrl, extract_drop' r (j + 1)]
          show (r.drop (j + 1)).length < r.length
          rw [List.length_drop]
          omega
      · gi_wp2
        refine bodyPost_ret (results_none rfl _ _ _) rfl ?_
        exact ⟨⟨_, rfl⟩, .inr ⟨_, ⟨_, (List.append_assoc _ _ _).trans HA.out⟩, hJx4⟩⟩

end Go.Proofs.YtcdfhceohjhogaaDoor
