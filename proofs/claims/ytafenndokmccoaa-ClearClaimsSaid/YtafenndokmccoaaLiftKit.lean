/- How arguments are opened: what a slice or a struct that came in holds, said of cells. -/
import Derived.Test.YtafenndokmccoaaKit
import Derived.ProofKit
import Derived.OpenShut
import Derived.SliceStrings
import Derived.Lib.SmallJoins
namespace Go.Proofs.Ytafenndokmccoaa
open Go.RowKit Go.ChangeShapes Go.WideShapes Go.ChangeAt
set_option linter.unusedVariables false
set_option linter.unusedSimpArgs false

section
variable {H : Type} {enc : TypeId × Value → H} {P : Program} {w : World} {base : Nat} {spare : Nat → Bool} {held : Bool}

theorem slOf_of_cells {α : Type} (f : α → Value) (d : α) (x : Addr) (n : Nat) (zs : List α) (hn : n ≤ zs.length) (h : ∀ i, i < zs.length → w.cell? (x.add i) = some (f (zs.getD i d))) :
    SlOf w (some x) ((zs.take n).map f) := by
  by_cases h0 : n = 0
  · subst h0; exact .inl (by simp)
  have hz : 0 < zs.length := by omega
  have h1 := h 0 hz
  obtain ⟨b, o, s⟩ := x
  have hs : s = none := by
    cases s with
    | none => rfl
    | some y =>
      exfalso
      simp only [World.cell?, Addr.add] at h1
      split at h1
      · simp at h1
      · cases h1
  subst hs
  have hb : b < w.heap.size := by
    rcases Nat.lt_or_ge b w.heap.size with hlt | hge
    · exact hlt
    · exfalso
      have e : w.heap[b]? = none := Array.getElem?_eq_none hge
      simp [World.cell?, Addr.add, e] at h1
  refine .inr ⟨b, o, rfl, hb, fun i hi => ?_⟩
  have hi' : i < n := by simp at hi; omega
  have hadd : (⟨b, o, none⟩ : Addr).add i = ⟨b, o + i, none⟩ := by
    simp only [Addr.add]
    split
    · rename_i h0'; subst h0'; rfl
    · rfl
  have := h i (by omega)
  rw [hadd] at this
  rw [this]
  simp [List.getD_eq_getElem?_getD, List.getElem?_eq_getElem (show i < zs.length by omega)]

/-- a slice of integers that came in -/
theorem rd_ints {t e : TypeId} {k : IntKind} {fuel : Nat} {cs : List Value} {x : DataW H × List MemPlace} (ht : P.underlying t = some (.slice e)) (he : P.underlying e = some (.int k)) (hc : P.cellsOf e = 1)
    (hsp : spare = fun _ => true) (h : DataW.trod enc P w base spare held fuel t cs = some x) :
    ∃ (a : Option Addr) (c : Nat) (zs : List Int), cs = [.slice a zs.length c] ∧ zs.length ≤ maxLen ∧ SlOf w a (zs.map (.int k)) ∧ ∀ z ∈ zs, (Lit.int k z).wf = true := by
  rcases open_ints ht he hc h with ⟨hcs, _⟩ | ⟨a, len, cap, zs, hcs, _, hl, hm, hz, _, hcell, hwz⟩
  · exact ⟨none, 0, [], hcs, by simp, .inl rfl, by simp⟩
  · subst hsp
    have hz' : zs.length = cap := by simpa using hz
    refine ⟨some a, cap, zs.take len, ?_, ?_, ?_, ?_⟩
    · rw [hcs, List.length_take, Nat.min_eq_left (by omega)]
    · rw [List.length_take]; omega
    · exact slOf_of_cells (.int k) 0 a len zs (by omega) hcell
    · intro z hzm; exact hwz z (List.mem_of_mem_take hzm)

/-- the same, with its capacity -/
theorem rd_intsC {t e : TypeId} {k : IntKind} {fuel : Nat} {cs : List Value} {x : DataW H × List MemPlace} (ht : P.underlying t = some (.slice e)) (he : P.underlying e = some (.int k)) (hc : P.cellsOf e = 1)
    (hsp : spare = fun _ => true) (h : DataW.trod enc P w base spare held fuel t cs = some x) :
    ∃ (a : Option Addr) (c : Nat) (zs : List Int), cs = [.slice a zs.length c] ∧ (zs.length ≤ maxLen ∧ zs.length ≤ c) ∧ SlOf w a (zs.map (.int k)) ∧ ∀ z ∈ zs, (Lit.int k z).wf = true := by
  rcases open_ints ht he hc h with ⟨hcs, _⟩ | ⟨a, len, cap, zs, hcs, _, hl, hm, hz, _, hcell, hwz⟩
  · exact ⟨none, 0, [], hcs, by simp, .inl rfl, by simp⟩
  · subst hsp
    have hz' : zs.length = cap := by simpa using hz
    refine ⟨some a, cap, zs.take len, ?_, ?_, ?_, ?_⟩
    · rw [hcs, List.length_take, Nat.min_eq_left (by omega)]
    · rw [List.length_take]; omega
    · exact slOf_of_cells (.int k) 0 a len zs (by omega) hcell
    · intro z hzm; exact hwz z (List.mem_of_mem_take hzm)

theorem rd_intsN {t e : TypeId} {k : IntKind} {fuel : Nat} {cs : List Value} {x : DataW H × List MemPlace} (ht : P.underlying t = some (.slice e)) (he : P.underlying e = some (.int k)) (hc : P.cellsOf e = 1)
    (hsp : spare = fun _ => true) (h : DataW.trod enc P w base spare held fuel t cs = some x) :
    ∃ (a : Option Addr) (c : Nat) (zs : List Int), cs = [.slice a zs.length c] ∧ (zs.length ≤ maxLen ∧ zs.length ≤ c ∧ (a = none → c = 0)) ∧ SlOf w a (zs.map (.int k)) ∧ ∀ z ∈ zs, (Lit.int k z).wf = true := by
  rcases open_ints ht he hc h with ⟨hcs, _⟩ | ⟨a, len, cap, zs, hcs, _, hl, hm, hz, _, hcell, hwz⟩
  · exact ⟨none, 0, [], hcs, by simp, .inl rfl, by simp⟩
  · subst hsp
    have hz' : zs.length = cap := by simpa using hz
    refine ⟨some a, cap, zs.take len, ?_, ?_, ?_, ?_⟩
    · rw [hcs, List.length_take, Nat.min_eq_left (by omega)]
    · rw [List.length_take]; exact ⟨by omega, by omega, fun h => by cases h⟩
    · exact slOf_of_cells (.int k) 0 a len zs (by omega) hcell
    · intro z hzm; exact hwz z (List.mem_of_mem_take hzm)

/-- a slice of texts that came in -/
theorem rd_strs {t e : TypeId} {fuel : Nat} {cs : List Value} {x : DataW H × List MemPlace} (ht : P.underlying t = some (.slice e)) (he : P.underlying e = some .string) (hc : P.cellsOf e = 1)
    (hsp : spare = fun _ => true) (h : DataW.trod enc P w base spare held fuel t cs = some x) :
    ∃ (a : Option Addr) (c : Nat) (ss : List ByteArray), cs = [.slice a ss.length c] ∧ ss.length ≤ maxLen ∧ SlOf w a (ss.map .string) ∧ ∀ s ∈ ss, s.size ≤ maxLen := by
  rcases open_strings ht he hc h with ⟨hcs, _⟩ | ⟨a, len, cap, zs, hcs, _, hl, hm, hz, _, hcell, hwz⟩
  · exact ⟨none, 0, [], hcs, by simp, .inl rfl, by simp⟩
  · subst hsp
    have hz' : zs.length = cap := by simpa using hz
    refine ⟨some a, cap, zs.take len, ?_, ?_, ?_, ?_⟩
    · rw [hcs, List.length_take, Nat.min_eq_left (by omega)]
    · rw [List.length_take]; omega
    · exact slOf_of_cells .string ByteArray.empty a len zs (by omega) hcell
    · intro z hzm; exact hwz z (List.mem_of_mem_take hzm)

theorem rd_strsC {t e : TypeId} {fuel : Nat} {cs : List Value} {x : DataW H × List MemPlace} (ht : P.underlying t = some (.slice e)) (he : P.underlying e = some .string) (hc : P.cellsOf e = 1)
    (hsp : spare = fun _ => true) (h : DataW.trod enc P w base spare held fuel t cs = some x) :
    ∃ (a : Option Addr) (c : Nat) (ss : List ByteArray), cs = [.slice a ss.length c] ∧ (ss.length ≤ maxLen ∧ ss.length ≤ c) ∧ SlOf w a (ss.map .string) ∧ ∀ s ∈ ss, s.size ≤ maxLen := by
  rcases open_strings ht he hc h with ⟨hcs, _⟩ | ⟨a, len, cap, zs, hcs, _, hl, hm, hz, _, hcell, hwz⟩
  · exact ⟨none, 0, [], hcs, by simp, .inl rfl, by simp⟩
  · subst hsp
    have hz' : zs.length = cap := by simpa using hz
    refine ⟨some a, cap, zs.take len, ?_, ?_, ?_, ?_⟩
    · rw [hcs, List.length_take, Nat.min_eq_left (by omega)]
    · rw [List.length_take]; omega
    · exact slOf_of_cells .string ByteArray.empty a len zs (by omega) hcell
    · intro z hzm; exact hwz z (List.mem_of_mem_take hzm)

theorem rd_int {t : TypeId} {k : IntKind} {fuel : Nat} {cs : List Value} {x : DataW H × List MemPlace} (ht : P.underlying t = some (.int k)) (h : DataW.trod enc P w base spare held fuel t cs = some x) :
    ∃ n, cs = [.int k n] ∧ (Lit.int k n).wf = true := by
  obtain ⟨n, h1, _, h2⟩ := DataW.trod_int ht h
  exact ⟨n, h1, h2⟩
theorem rd_bool {t : TypeId} {fuel : Nat} {cs : List Value} {x : DataW H × List MemPlace} (ht : P.underlying t = some .bool) (h : DataW.trod enc P w base spare held fuel t cs = some x) : ∃ b, cs = [.bool b] := by
  obtain ⟨b, h1, _⟩ := DataW.trod_bool ht h
  exact ⟨b, h1⟩
theorem rd_string {t : TypeId} {fuel : Nat} {cs : List Value} {x : DataW H × List MemPlace} (ht : P.underlying t = some .string) (h : DataW.trod enc P w base spare held fuel t cs = some x) : ∃ s : ByteArray, cs = [.string s] ∧ s.size ≤ maxLen := by
  obtain ⟨s, h1, _, h2⟩ := DataW.trod_string ht h
  exact ⟨s, h1, h2⟩

/-- a struct that came in: its fields' cells -/
theorem rd_struct {t : TypeId} {fs : Array Field} {fuel : Nat} {cs : List Value} {x : DataW H × List MemPlace} (ht : P.underlying t = some (.struct fs)) (h : DataW.trod enc P w base spare held fuel t cs = some x) :
    ∃ n, cs.length = P.cellsOf t ∧ ∀ (i : Nat) (f : Field), fs[i]? = some f → ∃ y, DataW.trod enc P w base spare held n f.type ((cs.drop f.offset).take (P.cellsOf f.type)) = some y := by
  obtain ⟨xs, n, _, _, hl, hlen, hf⟩ := DataW.trod_struct ht h
  refine ⟨n, hl, fun i f hi => ?_⟩
  have hlt : i < xs.length := by
    rw [hlen]
    exact (Array.getElem?_eq_some_iff.1 hi).1
  exact ⟨xs[i], by rw [hf i f hi, List.getElem?_eq_getElem hlt]⟩
end

theorem list2 {α : Type} {l : List α} (h : l.length = 2) : ∃ a b, l = [a, b] := by
  match l, h with
  | [a, b], _ => exact ⟨a, b, rfl⟩
theorem list3 {α : Type} {l : List α} (h : l.length = 3) : ∃ a b c, l = [a, b, c] := by
  match l, h with
  | [a, b, c], _ => exact ⟨a, b, c, rfl⟩
theorem list4 {α : Type} {l : List α} (h : l.length = 4) : ∃ a b c d, l = [a, b, c, d] := by
  match l, h with
  | [a, b, c, d], _ => exact ⟨a, b, c, d, rfl⟩
theorem list5 {α : Type} {l : List α} (h : l.length = 5) : ∃ a b c d e, l = [a, b, c, d, e] := by
  match l, h with
  | [a, b, c, d, e], _ => exact ⟨a, b, c, d, e, rfl⟩
theorem list8 {α : Type} {l : List α} (h : l.length = 8) : ∃ a b c d e f g i, l = [a, b, c, d, e, f, g, i] := by
  match l, h with
  | [a, b, c, d, e, f, g, i], _ => exact ⟨a, b, c, d, e, f, g, i, rfl⟩

theorem list_len {l : List Value} {P : Program} {t n : Nat} (h : (Array.mk l).size = P.cellsOf t) (hc : P.cellsOf t = n) : l.length = n := h.trans hc

theorem wf_u64 {n : Int} (h : (Lit.int .u64 n).wf = true) : 0 ≤ n ∧ n < 18446744073709551616 := by
  have : 0 ≤ n ∧ n ≤ 18446744073709551615 := by simpa [Lit.wf, IntKind.min, IntKind.max, IntKind.signed, IntKind.bits] using h
  omega
theorem wf_i64 {n : Int} (h : (Lit.int .i64 n).wf = true) : -9223372036854775808 ≤ n ∧ n ≤ 9223372036854775807 := by
  simpa [Lit.wf, IntKind.min, IntKind.max, IntKind.signed, IntKind.bits] using h

end Go.Proofs.Ytafenndokmccoaa
