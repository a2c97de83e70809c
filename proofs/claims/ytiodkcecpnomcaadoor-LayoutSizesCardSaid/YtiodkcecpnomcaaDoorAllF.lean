/- A shape's fields, told one by one: each is known to be one of the shape's, for bodies that index by it. -/
import Derived.Test.YtiodkcecpnomcaaDoorShapeAll
namespace Go.Proofs.YtiodkcecpnomcaaDoor
open Go.RowKit Go.Shelf
set_option linter.unusedVariables false
set_option linter.unusedSimpArgs false
attribute [local go_sem] Oper.semAt_some

def finT (s : ByteArray) (k : Nat) : List (Fin s.size) := (List.finRange s.size).take k
theorem finT_succ (s : ByteArray) (k : Nat) (h : k < s.size) : finT s (k + 1) = finT s k ++ [⟨k, h⟩] := by
  unfold finT
  rw [List.take_add_one]
  simp [h]
theorem finT_len (s : ByteArray) (k : Nat) (h : k ≤ s.size) : (finT s k).length = k := by
  unfold finT
  rw [List.length_take, List.length_finRange]; omega
theorem finT_all (s : ByteArray) : finT s s.size = List.finRange s.size := by
  unfold finT
  rw [List.take_of_length_le (by simp)]
theorem finT_pre (s : ByteArray) (k : Nat) : finT s k <+: List.finRange s.size := List.take_prefix _ _
def encF (s : ByteArray) (k : Fin s.size) : Array Value := fieldEnc (fieldAt s k)

set_option maxHeartbeats 1600000 in
theorem all_stopsF (n : Nat) (hn : 1 ≤ n) (s : ByteArray) (hs : shapeB s = true) (B : Nat) (w : World) (hB : B < w.heap.size) (hc : w.cell? ⟨B, 0, none⟩ = some (.string s)) :
    SeqStopsA Fence.wide n Tryd.prog 62 #[.pointer (some ⟨B, 0, none⟩)] (encF s) (fun xs => xs = List.finRange s.size) (fun pre => pre <+: List.finRange s.size) s.size w := by
  intro l J Jx W hW hJ hJx hY h0
  have hcW := (hW.cell (p := ⟨B, 0, none⟩) hB).trans hc
  have hbad := fun w => bad_calls s w
  have HY := Lib.hid hY
  have HJ := Lib.hid hJ
  clear hY hJ hJx hc
  refine callsIn_of_wp Tryd.func62 rfl trivial ?_ rfl
  simp only [Tryd.ntmps62, List.size_toArray, List.length_cons, List.length_nil, Nat.reduceAdd, Nat.reduceSub, Array.replicate_succ, Array.replicate_zero, List.push_toArray, List.append_toArray, List.nil_append, List.cons_append]
  refine wpIn_wide.2 (wp_scope_straight ((wpIn_wide (n := n)).1 ?_))
  rw [hs] at hbad
  have HB := Lib.hid hbad
  have HL := Lib.hid (fun k hk => shape_letter hs k hk)
  have hsz := shape_size hs
  clear hbad
  gi_wp2_with fail
  refine ⟨trivial, (callsIn_wide.2 (HB.out _)).mono ?_⟩; rintro e1 w1 ⟨rfl, hb1⟩; have hz1 := hb1.size; (try simp at hz1)
  have hJ1 := HJ.out _ _ _ none h0 (grown_of_below hb1) (fun r e => by cases e)
  have hc1 := (hb1.cell (p := ⟨B, 0, none⟩) (show B < W.heap.size from by have := hW.size; omega)).trans hcW
  have hWz : W.heap.size ≤ w1.heap.size := hb1.size
  gi_wp2
  refine wpIn_label ?_
  gi_wp2
  gi_loopw [] (fun wr => ∃ k : Nat, k ≤ s.size ∧ wr.heap[w1.heap.size]? = some (.stringIter s k) ∧ J (finT s k) wr) (fun wr => s.size - wr.iterPos w1.heap.size)
  case atStart => exact ⟨0, Nat.zero_le _, World.iter_heap _ _ _, HJ.out _ _ _ none hJ1 (grown_of_below ((Below.refl _ _).alloc (Nat.le_refl _) _)) (fun r e => by cases e)⟩
  case round =>
    obtain ⟨k, hk, hi, hJk⟩ := hrel
    by_cases hlt : k < s.size
    · obtain ⟨r1, r2⟩ := rune_of s k hlt (HL.out k hlt)
      have hnx : ∀ ty, (Instr.next (.pointer (some ⟨w1.heap.size, 0, none⟩)) true ty).run Tryd.prog wr = _ := fun ty => run_next_at wr w1.heap.size s k ty hi hlt
      rw [r1, r2] at hnx
      have hJ2 := HJ.out _ _ _ (some w1.heap.size) hJk (grownBy_putObj' wr w1.heap.size (.stringIter s (k + 1))) (fun r e => by cases e; exact ⟨hWz, _, hi, rfl⟩)
      have hi2 : (wr.putObj w1.heap.size (.stringIter s (k + 1))).heap[w1.heap.size]? = some (.stringIter s (k + 1)) := World.putObj_heap_same (Array.getElem?_eq_some_iff.1 hi).1
      obtain ⟨W2, hW2⟩ : ∃ W2, wr.putObj w1.heap.size (.stringIter s (k + 1)) = W2 := ⟨_, rfl⟩
      rw [hW2] at hnx hJ2 hi2
      have hl := (letter_ask (W2.alloc lettersMap) W2.heap.size (byteAt s k) (MapKept.heap_alloc W2 _).1).2
      have hJ3 := HJ.out _ _ _ none hJ2 (grown_of_below ((Below.refl _ W2).alloc (Nat.le_refl _) lettersMap)) (fun r e => by cases e)
      have hi3 := ((MapKept.heap_alloc W2 lettersMap).2 _ (Array.getElem?_eq_some_iff.1 hi2).1).trans hi2
      obtain ⟨fn, tmps, assign, body, hy, hR⟩ := HY.out _ (⟨k, hlt⟩ : Fin s.size) (W2.alloc lettersMap) hJ3 (by rw [finT_len s k (by omega)]; exact hlt)
      simp only [encF, fieldEnc, fieldAt] at hy
      have HI := Lib.hid hi
      clear hi hi2 hW2 hJ2 hJk hJ3 r1 r2
      gi_wp2_with fail
      refine ⟨trivial, (callsIn_wide.2 (letters_calls _)).mono ?_⟩
      rintro e2 w2 ⟨rfl, rfl⟩
      gi_wp2
      refine hR.mono ?_
      rintro e W3 (⟨rfl, hJ4, hk4⟩ | ⟨rfl, hJx4⟩)
      · have hi4 := hk4.same _ _ hi3 rfl
        rw [← finT_succ s k hlt] at hJ4
        have hm0 : wr.iterPos w1.heap.size = k := by simp [World.iterPos, HI.out]
        have hm1 : W3.iterPos w1.heap.size = k + 1 := by simp [World.iterPos, hi4]
        have HM0 := Lib.hid hm0
        have HM1 := Lib.hid hm1
        have HI4 := Lib.hid hi4
        clear hm0 hm1 hi4 hi3 hl
        gi_wp2
        go_roundw
        case rel => exact ⟨k + 1, by omega, HI4.out, hJ4⟩
        case measure => rw [HM0.out, HM1.out]; omega
      · rw [← finT_succ s k hlt] at hJx4
        gi_wp2
        rw [Exit.noGoto_normal]
        go_end0
        exact ⟨⟨_, rfl⟩, .inr ⟨_, finT_pre s _, hJx4⟩⟩
    · have hnx : ∀ ty, (Instr.next (.pointer (some ⟨w1.heap.size, 0, none⟩)) true ty).run Tryd.prog wr = _ := fun ty => run_next_at_end wr w1.heap.size s k ty hi hlt
      obtain rfl : k = s.size := by omega
      clear hi
      gi_wp2
      rw [Exit.noGoto_normal]
      go_end0
      exact ⟨⟨_, rfl⟩, .inl ⟨_, finT_all s, hJk⟩⟩

end Go.Proofs.YtiodkcecpnomcaaDoor
