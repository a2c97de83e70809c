/- The layer 'shape': its fields told one by one (an iterator), and how many they are. -/
import Derived.Test.YtiodkcecpnomcaaDoorShapeB
import Derived.RangeFuncNested
import Derived.RangeFuncBound
import Derived.RangeFuncCalls
import Derived.RangeFuncLeaves
import Derived.RangeFuncBox
import Derived.Shelf.Abstract
import Derived.Shelf.RegionOpen
import Derived.OwnWalkIn
import Derived.TacticsInMore
import Derived.LoopNIn
import Derived.LoopIn
namespace Go.Proofs.YtiodkcecpnomcaaDoor
open Go.RowKit Go.Shelf
set_option linter.unusedVariables false
set_option linter.unusedSimpArgs false
attribute [local go_sem] Oper.semAt_some

/-- new blocks alone: as the laws on iterators ask it -/
theorem grown_of_below {w w' : World} (h : Below w.heap.size w w') : w.grownBy w' none := ⟨h.os, h.tape, h.output, h.size, fun k hk _ => h.block k hk⟩

/-- the next rune of a text's walk, in whatever world -/
theorem run_next_at {P : Program} (w : World) (it : Nat) (s : ByteArray) (pos : Nat) (ty : TypeId) (hi : w.heap[it]? = some (.stringIter s pos)) (h : pos < s.size) :
    (Instr.next (.pointer (some ⟨it, 0, none⟩)) true ty).run P w =
      .ok (.tuple #[.bool true, .int .i64 pos, .int .i32 (Utf8.decode s pos).1]) (w.putObj it (.stringIter s (pos + (Utf8.decode s pos).2))) := by
  simp only [Instr.next, getObj, setObj, Sem.run_bind, Sem.run, hi, Result.andThen, h, if_true]
  simp [goInt, World.putObj]
theorem run_next_at_end {P : Program} (w : World) (it : Nat) (s : ByteArray) (pos : Nat) (ty : TypeId) (hi : w.heap[it]? = some (.stringIter s pos)) (h : ¬ pos < s.size) :
    (Instr.next (.pointer (some ⟨it, 0, none⟩)) true ty).run P w = .ok (.tuple #[.bool false]) w := by
  simp [Instr.next, getObj, Sem.run, hi, h]

/-- a shape's fields, as they are told: which one, its kind -/
def byteAt (s : ByteArray) (i : Nat) : Int := ((s.data.toList.getD i 0).toNat : Int)
def fieldAt (s : ByteArray) (i : Nat) : Int × Int := ((i : Int), letterK (byteAt s i))
def fieldsTo (s : ByteArray) (k : Nat) : List (Int × Int) := (List.range k).map (fieldAt s)
def fieldsOf (s : ByteArray) : List (Int × Int) := if shapeB s = true then fieldsTo s s.size else []
theorem fieldsTo_succ (s : ByteArray) (k : Nat) : fieldsTo s (k + 1) = fieldsTo s k ++ [fieldAt s k] := by simp [fieldsTo, List.range_succ]
theorem fieldsTo_len (s : ByteArray) (k : Nat) : (fieldsTo s k).length = k := by simp [fieldsTo]
theorem fieldsTo_pre (s : ByteArray) {j k : Nat} (h : j ≤ k) : fieldsTo s j <+: fieldsTo s k := by
  induction k with
  | zero => obtain rfl : j = 0 := by omega
            exact List.prefix_refl _
  | succ k ih =>
    by_cases e : j = k + 1
    · rw [e]; exact List.prefix_refl _
    · rw [fieldsTo_succ]
      exact (ih (by omega)).trans (List.prefix_append _ _)
def fieldEnc (x : Int × Int) : Array Value := #[.int .i64 x.1, .int .i64 x.2]

set_option maxHeartbeats 400000 in
theorem all_calls (s : ByteArray) (w : World) :
    Calls Tryd.prog 43 #[.string s] w fun e w' => e = .returned (.func (.func 62) #[] #[.pointer (some ⟨w.heap.size, 0, none⟩)]) ∧ w.alloc (.cells #[.string s] 58) = w' := by
  go_enter Tryd.func43, Tryd.ntmps43
  go_wp2
  go_ret
  exact ⟨rfl, rfl⟩

theorem shape_letter {s : ByteArray} (h : shapeB s = true) (k : Nat) (hk : k < s.size) : letterOk s[k] = true := by
  simp only [shapeB, lettersOk, Bool.and_eq_true, List.all_eq_true] at h
  exact h.1 _ (by show s.data[k] ∈ _; simp)
theorem rune_of (s : ByteArray) (k : Nat) (h : k < s.size) (hb : letterOk s[k] = true) : ((Utf8.decode s k).1 : Int) = byteAt s k ∧ (Utf8.decode s k).2 = 1 := by
  have hc : s[k] = 112 ∨ s[k] = 115 := by simpa [letterOk] using hb
  have ha : s[k].toNat < 128 := by rcases hc with h | h <;> (rw [h]; decide)
  rw [decode_ascii s k h ha]
  refine ⟨?_, rfl⟩
  have e : s.data.toList.getD k 0 = s[k] := by
    rw [List.getD_eq_getElem?_getD, List.getElem?_eq_getElem (by simpa using h)]
    simp
    rfl
  unfold byteAt
  rw [e]

set_option maxHeartbeats 1600000 in
theorem all_stops (n : Nat) (hn : 1 ≤ n) (s : ByteArray) (B : Nat) (w : World) (hB : B < w.heap.size) (hc : w.cell? ⟨B, 0, none⟩ = some (.string s)) :
    SeqStopsA Fence.wide n Tryd.prog 62 #[.pointer (some ⟨B, 0, none⟩)] fieldEnc (fun xs => xs = fieldsOf s) (fun pre => pre <+: fieldsOf s) (fieldsOf s).length w := by
  intro l J Jx W hW hJ hJx hY h0
  have hcW := (hW.cell (p := ⟨B, 0, none⟩) hB).trans hc
  have hbad := fun w => bad_calls s w
  have HY := Lib.hid hY
  have HJ := Lib.hid hJ
  clear hY hJ hJx hc
  refine callsIn_of_wp Tryd.func62 rfl trivial ?_ rfl
  simp only [Tryd.ntmps62, List.size_toArray, List.length_cons, List.length_nil, Nat.reduceAdd, Nat.reduceSub, Array.replicate_succ, Array.replicate_zero, List.push_toArray, List.append_toArray, List.nil_append, List.cons_append]
  refine wpIn_wide.2 (wp_scope_straight ((wpIn_wide (n := n)).1 ?_))
  cases hs : shapeB s with
  | false =>
    rw [hs] at hbad
    have HB := Lib.hid hbad
    have hF : fieldsOf s = [] := by unfold fieldsOf; rw [hs]; rfl
    rw [hF]
    clear hbad hs hF HY
    gi_wp2_with fail
    refine ⟨trivial, (callsIn_wide.2 (HB.out _)).mono ?_⟩; rintro e1 w1 ⟨rfl, hb1⟩; have hz1 := hb1.size; (try simp at hz1)
    gi_wp2
    rw [Exit.noGoto_ret]
    refine bodyPost_ret (results_none rfl _ _ _) rfl ?_
    exact ⟨⟨_, rfl⟩, .inl ⟨_, rfl, HJ.out _ _ _ none h0 (grown_of_below hb1) (fun r e => by cases e)⟩⟩
  | true =>
    have hF : fieldsOf s = fieldsTo s s.size := by unfold fieldsOf; rw [hs]; rfl
    rw [hF] at HY ⊢
    rw [hs] at hbad
    have HB := Lib.hid hbad
    have HL := Lib.hid (fun k hk => shape_letter hs k hk)
    have hsz := shape_size hs
    clear hbad hs hF
    gi_wp2_with fail
    refine ⟨trivial, (callsIn_wide.2 (HB.out _)).mono ?_⟩; rintro e1 w1 ⟨rfl, hb1⟩; have hz1 := hb1.size; (try simp at hz1)
    have hJ1 := HJ.out _ _ _ none h0 (grown_of_below hb1) (fun r e => by cases e)
    have hc1 := (hb1.cell (p := ⟨B, 0, none⟩) (show B < W.heap.size from by have := hW.size; omega)).trans hcW
    have hWz : W.heap.size ≤ w1.heap.size := hb1.size
    gi_wp2
    refine wpIn_label ?_
    gi_wp2
    gi_loopw [] (fun wr => ∃ k : Nat, k ≤ s.size ∧ wr.heap[w1.heap.size]? = some (.stringIter s k) ∧ J (fieldsTo s k) wr) (fun wr => s.size - wr.iterPos w1.heap.size)
    case atStart => exact ⟨0, Nat.zero_le _, World.iter_heap _ _ _, HJ.out _ _ _ none hJ1 (grown_of_below ((Below.refl _ _).alloc (Nat.le_refl _) _)) (fun r e => by cases e)⟩
    case round =>
      obtain ⟨k, hk, hi, hJk⟩ := hrel
      by_cases hlt : k < s.size
      · obtain ⟨r1, r2⟩ := rune_of s k hlt (HL.out k hlt)
        have hnx : ∀ ty, (Instr.next (.pointer (some ⟨w1.heap.size, 0, none⟩)) true ty).run Tryd.prog wr = _ := fun ty => run_next_at wr w1.heap.size s k ty hi hlt
        rw [r1, r2] at hnx
        have hJ2 := HJ.out _ _ _ (some w1.heap.size) hJk (grownBy_putObj' wr w1.heap.size (.stringIter s (k + 1))) (fun r e => by cases e; exact ⟨hWz, _, hi, rfl⟩)
        have hi2 : (wr.putObj w1.heap.size (.stringIter s (k + 1))).heap[w1.heap.size]? = some (.stringIter s (k + 1)) := World.putObj_heap_same (Array.getElem?_eq_some_iff.1 hi).1
        obtain ⟨W2, hW2⟩ : ∃ W2, wr.putObj w1.heap.size (.stringIter s (k + 1)) = W2 := ⟨_, rfl⟩
        rw [hW2] at hnx hJ2 hi2
        have hl := (letter_ask (W2.alloc lettersMap) W2.heap.size (byteAt s k) (MapKept.heap_alloc W2 _).1).2
        have hJ3 := HJ.out _ _ _ none hJ2 (grown_of_below ((Below.refl _ W2).alloc (Nat.le_refl _) lettersMap)) (fun r e => by cases e)
        have hi3 := ((MapKept.heap_alloc W2 lettersMap).2 _ (Array.getElem?_eq_some_iff.1 hi2).1).trans hi2
        obtain ⟨fn, tmps, assign, body, hy, hR⟩ := HY.out _ (fieldAt s k) (W2.alloc lettersMap) hJ3 (by rw [fieldsTo_len, fieldsTo_len]; exact hlt)
        simp only [fieldEnc, fieldAt] at hy
        have HI := Lib.hid hi
        clear hi hi2 hW2 hJ2 hJk hJ3 r1 r2
        gi_wp2_with fail
        refine ⟨trivial, (callsIn_wide.2 (letters_calls _)).mono ?_⟩
        rintro e2 w2 ⟨rfl, rfl⟩
        gi_wp2
        refine hR.mono ?_
        rintro e W3 (⟨rfl, hJ4, hk4⟩ | ⟨rfl, hJx4⟩)
        · have hi4 := hk4.same _ _ hi3 rfl
          rw [← fieldsTo_succ] at hJ4
          have hm0 : wr.iterPos w1.heap.size = k := by simp [World.iterPos, HI.out]
          have hm1 : W3.iterPos w1.heap.size = k + 1 := by simp [World.iterPos, hi4]
          have HM0 := Lib.hid hm0
          have HM1 := Lib.hid hm1
          have HI4 := Lib.hid hi4
          clear hm0 hm1 hi4 hi3 hl
          gi_wp2
          go_roundw
          case rel => exact ⟨k + 1, by omega, HI4.out, hJ4⟩
          case measure => rw [HM0.out, HM1.out]; omega
        · rw [← fieldsTo_succ] at hJx4
          gi_wp2
          rw [Exit.noGoto_normal]
          go_end0
          exact ⟨⟨_, rfl⟩, .inr ⟨_, fieldsTo_pre s (show k + 1 ≤ s.size by omega), hJx4⟩⟩
      · have hnx : ∀ ty, (Instr.next (.pointer (some ⟨w1.heap.size, 0, none⟩)) true ty).run Tryd.prog wr = _ := fun ty => run_next_at_end wr w1.heap.size s k ty hi hlt
        obtain rfl : k = s.size := by omega
        clear hi
        gi_wp2
        rw [Exit.noGoto_normal]
        go_end0
        exact ⟨⟨_, rfl⟩, .inl ⟨_, rfl, hJk⟩⟩

end Go.Proofs.YtiodkcecpnomcaaDoor
