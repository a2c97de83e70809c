/- Operations out of their texts, plainly: a text's pieces, the kind they tell, its numbers. No program in sight. -/
import Derived.Test.YtlohfcinffaagaaDoorOpV
import Derived.Test.YtlohfcinffaagaaDoorDec
import Derived.Test.YtlohfcinffaagaaDoorSplitL
import Derived.Lib.Split
import Derived.Lib.CountLaws
import Derived.Lib.IndexBytes
namespace Go.Proofs.YtlohfcinffaagaaDoor
set_option linter.unusedVariables false
set_option linter.unusedSimpArgs false

def blank : ByteArray := ⟨#[32]⟩
theorem index_blank (s : ByteArray) : Lib.indexB s blank = Lib.indexByte s.data.toList 32 := by
  show Lib.index s.data.toList [32] = _
  exact Lib.index_one _ _
theorem split_pieces : ∀ (m : Nat) (s : ByteArray), s.size ≤ m → (Lib.splitB blank 0 (Lib.countB s blank) s).map (·.data.toList) = splitSp s.data.toList
  | m, s, hm => by
    have hlo := index_lo s.data.toList
    by_cases hn : Lib.indexByte s.data.toList 32 < 0
    · have h1 : Lib.indexB s blank = -1 := by rw [index_blank]; omega
      rw [Lib.splitB_miss _ _ _ _ h1, splitSp_no _ hn]
      rfl
    · obtain ⟨i, hi⟩ := Int.eq_ofNat_of_zero_le (show 0 ≤ Lib.indexByte s.data.toList 32 by omega)
      have h1 : Lib.indexB s blank = i := by rw [index_blank]; exact hi
      have hlt : i < s.size := by
        have := hlo.2
        rw [hi, Array.length_toList] at this
        have h2 : s.data.size = s.size := rfl
        omega
      rw [Lib.countB_hit s blank i (by decide) h1, Nat.add_comm, Lib.splitB_hit _ _ _ _ i h1, splitSp_at _ i hi]
      have hb : blank.size = 1 := rfl
      rw [hb, Nat.add_zero]
      have e1 : (s.extract 0 i).data.toList = s.data.toList.take i := by
        rw [ByteArray.data_extract]; simp
      have e2 : (s.extract (i + 1) s.size).data.toList = s.data.toList.drop (i + 1) := by
        have h2 : s.data.size = s.size := rfl
        rw [ByteArray.data_extract]
        simp only [Array.toList_extract, List.extract_eq_take_drop]
        exact List.take_of_length_le (by simp)
      cases m with
      | zero => omega
      | succ m =>
        have ih := split_pieces m (s.extract (i + 1) s.size) (by rw [ByteArray.size_extract]; omega)
        rw [List.map_cons, e1, ih, e2]

theorem split_len : ∀ (m : Nat) (s : ByteArray), s.size ≤ m → (Lib.splitB blank 0 (Lib.countB s blank) s).length = Lib.countB s blank + 1
  | m, s, hm => by
    have hlo := index_lo s.data.toList
    by_cases hn : Lib.indexByte s.data.toList 32 < 0
    · have h1 : Lib.indexB s blank = -1 := by rw [index_blank]; omega
      rw [Lib.splitB_miss _ _ _ _ h1, Lib.countB_miss _ _ h1]
      rfl
    · obtain ⟨i, hi⟩ := Int.eq_ofNat_of_zero_le (show 0 ≤ Lib.indexByte s.data.toList 32 by omega)
      have h1 : Lib.indexB s blank = i := by rw [index_blank]; exact hi
      have hlt : i < s.size := by
        have := hlo.2
        rw [hi, Array.length_toList] at this
        have h2 : s.data.size = s.size := rfl
        omega
      rw [Lib.countB_hit s blank i (by decide) h1, Nat.add_comm 1, Lib.splitB_hit _ _ _ _ i h1]
      have hb : blank.size = 1 := rfl
      rw [hb]
      cases m with
      | zero => omega
      | succ m =>
        have ih := split_len m (s.extract (i + 1) s.size) (by rw [ByteArray.size_extract]; omega)
        rw [List.length_cons, ih]
theorem count_blank (s : ByteArray) : Lib.countB s blank ≤ s.size + 1 := by
  have := Lib.count_le s.data.toList blank.data.toList
  rw [Array.length_toList] at this
  exact this

/-- the kind that a text's pieces tell; its numbers -/
def kindB (l : List (List UInt8)) (k : Int) : Bool := decide ((opName k).data.toList = l.headD []) && decide ((opNames k).length + 1 = l.length)
def kindOf (l : List (List UInt8)) : Int :=
  if kindB l 1 = true then 1 else if kindB l 2 = true then 2 else if kindB l 3 = true then 3 else if kindB l 4 = true then 4 else if kindB l 5 = true then 5 else if kindB l 6 = true then 6
  else if kindB l 7 = true then 7 else if kindB l 8 = true then 8 else if kindB l 9 = true then 9 else if kindB l 10 = true then 10 else if kindB l 11 = true then 11 else 0
/-- the numbers, one by one; 'none': one is none -/
def numsTo (ns : List Nat) (l : List (List UInt8)) : Nat → OpN → Option OpN
  | 0, o => some o
  | j + 1, o => match numsTo ns l j o with
    | none => none
    | some p => match wholeV (l.getD (j + 1) []) with | none => none | some v => some (p.set (ns.getD j 0) v)
def readO (l : List (List UInt8)) : Option OpN := if kindOf l = 0 then none else numsTo (opNames (kindOf l)) l (opNames (kindOf l)).length (OpN.only (kindOf l))
def readOp (s : ByteArray) : OpN := (readO (splitSp s.data.toList)).getD (OpN.only 0)
def readErr (s : ByteArray) : Int := if (readO (splitSp s.data.toList)).isSome = true then 0 else 186

theorem split_le (l : List UInt8) : ∀ x ∈ splitSp l, x.length ≤ l.length := by
  induction l with
  | nil => simp [splitSp]
  | cons c cs ih =>
    intro x hx
    unfold splitSp at hx
    by_cases hc : c = 32
    · rw [if_pos hc] at hx
      rcases List.mem_cons.1 hx with rfl | hx
      · simp
      · have := ih x hx; simp; omega
    · rw [if_neg hc] at hx
      cases hs : splitSp cs with
      | nil => exact absurd hs (splitSp_ne cs)
      | cons p ps =>
        rw [hs] at hx ih
        rcases List.mem_cons.1 hx with rfl | hx
        · have := ih p (by simp); simp; omega
        · have := ih x (by simp [hx]); simp; omega

theorem numsTo_none {ns : List Nat} {l : List (List UInt8)} {j : Nat} {o : OpN} (h : numsTo ns l j o = none) : ∀ m, j ≤ m → numsTo ns l m o = none := by
  intro m
  induction m with
  | zero =>
    intro hm
    obtain rfl : j = 0 := by omega
    exact h
  | succ m ih =>
    intro hm
    by_cases e : j = m + 1
    · subst e; exact h
    · unfold numsTo; rw [ih (by omega)]
theorem numsTo_step {ns : List Nat} {l : List (List UInt8)} {j : Nat} {o p : OpN} (h : numsTo ns l j o = some p) : numsTo ns l (j + 1) o = match wholeV (l.getD (j + 1) []) with | none => none | some v => some (p.set (ns.getD j 0) v) := by
  conv => lhs; unfold numsTo
  rw [h]
theorem opName_inj {j k : Int} (hj : opIs j = true) (hk : opIs k = true) (h : opName j = opName k) : j = k := by
  rcases kinds_of hj with rfl | rfl | rfl | rfl | rfl | rfl | rfl | rfl | rfl | rfl | rfl <;>
  rcases kinds_of hk with rfl | rfl | rfl | rfl | rfl | rfl | rfl | rfl | rfl | rfl | rfl <;>
  first | rfl | exact absurd h (by decide)
theorem kindB_inj {l : List (List UInt8)} {j k : Int} (hj : opIs j = true) (hk : opIs k = true) (h1 : kindB l j = true) (h2 : kindB l k = true) : j = k := by
  unfold kindB at h1 h2
  simp only [Bool.and_eq_true, decide_eq_true_eq] at h1 h2
  refine opName_inj hj hk ?_
  have h3 := h1.1.trans h2.1.symm
  generalize opName j = a at *
  generalize opName k = b at *
  obtain ⟨⟨a⟩⟩ := a
  obtain ⟨⟨b⟩⟩ := b
  simp only at h3
  rw [h3]
theorem kindOf_none {l : List (List UInt8)} (h : ∀ k, opIs k = true → kindB l k = false) : kindOf l = 0 := by
  unfold kindOf
  rw [if_neg (by rw [h 1 (by decide)]; decide), if_neg (by rw [h 2 (by decide)]; decide), if_neg (by rw [h 3 (by decide)]; decide), if_neg (by rw [h 4 (by decide)]; decide), if_neg (by rw [h 5 (by decide)]; decide), if_neg (by rw [h 6 (by decide)]; decide),
    if_neg (by rw [h 7 (by decide)]; decide), if_neg (by rw [h 8 (by decide)]; decide), if_neg (by rw [h 9 (by decide)]; decide), if_neg (by rw [h 10 (by decide)]; decide), if_neg (by rw [h 11 (by decide)]; decide)]
theorem kindOf_some {l : List (List UInt8)} {k : Int} (hk : opIs k = true) (h : kindB l k = true) : kindOf l = k := by
  have hne : ∀ j, opIs j = true → j ≠ k → kindB l j = false := fun j hj hne => by
    cases hb : kindB l j with
    | false => rfl
    | true => exact absurd (kindB_inj hj hk hb h) hne
  have hstep : ∀ (j : Int) (y : Int), opIs j = true → (j ≠ k → y = k) → (if kindB l j = true then j else y) = k := fun j y hj hy => by
    by_cases e : j = k
    · subst e; rw [if_pos h]
    · rw [if_neg (by rw [hne j hj e]; decide)]; exact hy e
  unfold kindOf
  refine hstep 1 _ (by decide) fun n1 => hstep 2 _ (by decide) fun n2 => hstep 3 _ (by decide) fun n3 => hstep 4 _ (by decide) fun n4 => hstep 5 _ (by decide) fun n5 => hstep 6 _ (by decide) fun n6 => hstep 7 _ (by decide) fun n7 =>
    hstep 8 _ (by decide) fun n8 => hstep 9 _ (by decide) fun n9 => hstep 10 _ (by decide) fun n10 => hstep 11 _ (by decide) fun n11 => ?_
  have := kinds_of hk
  omega

end Go.Proofs.YtlohfcinffaagaaDoor
