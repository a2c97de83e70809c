/- Words stored one behind the other into an arena: what holds between two stores. -/
import Derived.Test.YtiodkcecpnomcaaArDo
import Derived.Test.YtiodkcecpnomcaaObjG
namespace Go.Proofs.Ytiodkcecpnomcaa
open Go.RowKit
set_option linter.unusedVariables false
set_option linter.unusedSimpArgs false

/-- words stored from a place on, the first k of them -/
def putTo (l : List Int) (i : Nat) (ws : List Int) : Nat → List Int
  | 0 => l
  | k + 1 => (putTo l i ws k).set (i + k) (ws.getD k 0)
theorem putTo_len (l : List Int) (i : Nat) (ws : List Int) : ∀ k, (putTo l i ws k).length = l.length
  | 0 => rfl
  | k + 1 => by rw [putTo, List.length_set, putTo_len l i ws k]
theorem setRow_setCell (w : World) (b i : Nat) (l : List Int) (v : Int) : (w.setRow b (u64s l)).setCell ⟨b, i, none⟩ (.int .u64 v) = w.setRow b (u64s (l.set i v)) := by
  have e : (u64s l).setIfInBounds i (.int .u64 v) = u64s (l.set i v) := by
    apply Array.ext'
    simp [u64s, List.map_set]
  unfold World.setRow World.setCell
  congr 1
  apply Array.ext
  · simp
  · intro j h1 h2
    simp only [Array.getElem_modify]
    split
    · rename_i hj
      cases w.heap[j]'(by simpa using h2) with
      | cells c t f => simp [e]
      | _ => rfl
    · rfl
theorem setRow_same {w : World} {p b : Nat} {l : List Int} (h : Ar w p b l) : w.setRow b (u64s l) = w := by
  have hw := h.words
  unfold World.setRow
  obtain ⟨hlt, hv⟩ := Array.getElem?_eq_some_iff.1 hw
  have : w.heap.modify b (fun | .cells _ elem frozen => .cells (u64s l) elem frozen | o => o) = w.heap := by
    apply Array.ext
    · simp
    · intro j h1 h2
      simp only [Array.getElem_modify]
      split
      · rename_i hj
        subst hj
        rw [hv]
      · rfl
  exact Eq.trans (congrArg (fun hp => ({ w with heap := hp } : World)) this) rfl
theorem Ar.same {W W' : World} {p b : Nat} {l : List Int} (h : Ar W p b l) (hp : W'.heap[p]? = W.heap[p]?) (hb : W'.heap[b]? = W.heap[b]?) : Ar W' p b l :=
  ⟨hp.trans h.box, hb.trans h.words, h.rng, h.pos, h.len⟩

structure PutI (w w8 : World) (p b : Nat) (lk : List Int) (wr : World) : Prop where
  ar : Ar wr p b lk
  bel : Below w.heap.size (w.setRow b (u64s lk)) wr
  oth : ∀ B, B < w8.heap.size → B ≠ b → wr.heap[B]? = w8.heap[B]?
  sz : w8.heap.size ≤ wr.heap.size
theorem PutI.store {w w8 wr w9 : World} {p b : Nat} {lk : List Int} (h : PutI w w8 p b lk wr) (i : Nat) (v : Int) (hv : 0 ≤ v ∧ v < 18446744073709551616) (hw : w.heap.size ≤ w8.heap.size) (hb : Below wr.heap.size (wr.setCell ⟨b, i, none⟩ (.int .u64 v)) w9) :
    PutI w w8 p b (lk.set i v) w9 := by
  have hs : (wr.setCell ⟨b, i, none⟩ (.int .u64 v)).heap.size = wr.heap.size := setCell_size _ _ _
  have hb' : Below (wr.setCell ⟨b, i, none⟩ (.int .u64 v)).heap.size (wr.setCell ⟨b, i, none⟩ (.int .u64 v)) w9 := by rw [hs]; exact hb
  refine ⟨(h.ar.set i v hv).below hb', ?_, fun B hB hne => ?_, ?_⟩
  · rw [← setRow_setCell]
    exact Below.then (below_set2 h.bel _ _) hb' (by rw [hs]; exact Nat.le_trans hw h.sz)
  · rw [hb.block B (Nat.lt_of_lt_of_le hB h.sz), Below.heap_setCell _ _ _ _ hne]
    exact h.oth B hB hne
  · have := hb.size
    rw [hs] at this
    exact Nat.le_trans h.sz this
theorem PutI.cell {w w8 wr : World} {p b : Nat} {lk : List Int} (h : PutI w w8 p b lk wr) (B o : Nat) (hB : B < w8.heap.size) (hne : B ≠ b) : wr.cell? ⟨B, o, none⟩ = w8.cell? ⟨B, o, none⟩ := by
  simp only [World.cell?, h.oth B hB hne]
theorem PutI.frozen {w w8 wr : World} {p b : Nat} {lk : List Int} (h : PutI w w8 p b lk wr) (B o : Nat) (hB : B < w8.heap.size) (hne : B ≠ b) : wr.frozen? ⟨B, o, none⟩ = w8.frozen? ⟨B, o, none⟩ := by
  simp only [World.frozen?, h.oth B hB hne]
end Go.Proofs.Ytiodkcecpnomcaa
