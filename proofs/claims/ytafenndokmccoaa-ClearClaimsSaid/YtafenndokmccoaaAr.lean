/- The layer 'arena': words that are there; loads and stores. -/
import Derived.Test.YtafenndokmccoaaKit
import Derived.Laws.EntriesVeiled
import Derived.Laws.MakeOwn
import Derived.Laws.CopyOwn
namespace Go.Proofs.Ytafenndokmccoaa
open Go.RowKit
set_option linter.unusedVariables false
set_option linter.unusedSimpArgs false

def u64s (l : List Int) : Array Value := (l.map (fun x => Value.int .u64 x)).toArray
theorem u64s_size (l : List Int) : (u64s l).size = l.length := by simp [u64s]
/-- an arena stands at block p, its words in block b -/
structure Ar (W : World) (p b : Nat) (l : List Int) : Prop where
  box : W.heap[p]? = some (.cells #[.slice (some ⟨b, 0, none⟩) l.length l.length] 118 (0, 0))
  words : W.heap[b]? = some (.cells (u64s l) 41 (0, 0))
  rng : ∀ x ∈ l, 0 ≤ x ∧ x < 18446744073709551616
  pos : 0 < l.length
  len : l.length ≤ 16384

theorem Ar.pb {W : World} {p b : Nat} {l : List Int} (h : Ar W p b l) : p < W.heap.size := (Array.getElem?_eq_some_iff.1 h.box).1
theorem Ar.bb {W : World} {p b : Nat} {l : List Int} (h : Ar W p b l) : b < W.heap.size := (Array.getElem?_eq_some_iff.1 h.words).1
theorem Ar.below {W W' : World} {p b : Nat} {l : List Int} (h : Ar W p b l) (hb : Below W.heap.size W W') : Ar W' p b l :=
  ⟨(hb.block p h.pb).trans h.box, (hb.block b h.bb).trans h.words, h.rng, h.pos, h.len⟩
theorem Ar.alloc {W : World} {p b : Nat} {l : List Int} (h : Ar W p b l) (o : Obj) : Ar (W.alloc o) p b l := h.below ((Below.refl _ _).alloc (Nat.le_refl _) _)
theorem Ar.drew {W : World} {p b : Nat} {l : List Int} (h : Ar W p b l) : Ar W.drew p b l := h.below (Below.refl _ _).drew
theorem Ar.drewN {W : World} {p b : Nat} {l : List Int} (h : Ar W p b l) (n : Nat) : Ar (W.drewN n) p b l := h.below (Below.drewN' (Below.refl _ _) _)
theorem Ar.cell {W : World} {p b : Nat} {l : List Int} (h : Ar W p b l) : W.cell? ⟨p, 0, none⟩ = some (.slice (some ⟨b, 0, none⟩) l.length l.length) := by
  simp [World.cell?, h.box]
theorem Ar.at {W : World} {p b : Nat} {l : List Int} (h : Ar W p b l) (i : Nat) (hi : i < l.length) : W.cell? ⟨b, i, none⟩ = some (.int .u64 l[i]) := by
  simp [World.cell?, h.words, u64s, hi]
theorem Ar.fz {W : World} {p b : Nat} {l : List Int} (h : Ar W p b l) (i : Nat) : W.frozen? ⟨b, i, none⟩ = false := by
  simp [World.frozen?, h.words]
theorem Ar.ne {W : World} {p b : Nat} {l : List Int} (h : Ar W p b l) : p ≠ b := by
  intro e
  have h1 := h.box
  rw [e, h.words] at h1
  have h2 := congrArg (fun o => match o with | some (Obj.cells xs _ _) => xs[0]? | _ => none) h1
  have h3 : (u64s l)[0]? = some (.int .u64 (l[0]'h.pos)) := by simp [u64s, h.pos]
  simp only [h3] at h2
  simp at h2
theorem Ar.set {W : World} {p b : Nat} {l : List Int} (h : Ar W p b l) (i : Nat) (v : Int) (hv : 0 ≤ v ∧ v < 18446744073709551616) : Ar (W.setCell ⟨b, i, none⟩ (.int .u64 v)) p b (l.set i v) := by
  refine ⟨?_, ?_, ?_, by rw [List.length_set]; exact h.pos, by rw [List.length_set]; exact h.len⟩
  · rw [Below.heap_setCell _ _ _ _ (fun e => h.ne e), List.length_set]; exact h.box
  · simp only [World.setCell, Array.getElem?_modify, if_true, h.words, Option.map_some]
    congr 2
    apply Array.ext'
    simp [u64s, List.map_set]
  · intro x hx
    rcases List.mem_or_eq_of_mem_set hx with h1 | h1
    · exact h.rng x h1
    · rw [h1]; exact hv

theorem arNone_nil (w : World) : Calls Try.prog 54 #[.pointer none] w fun e w' => e = .returned (.bool true) ∧ Below w.heap.size w w' := by
  go_enter Try.func54, Try.ntmps54
  go_wp2
  go_ret
  exact ⟨rfl, by (repeat (first | exact Below.refl _ _ | (with_reducible assumption) | refine Below.drew ?_ | refine Below.drewN' ?_ _ | refine Below.alloc ?_ (by first | omega | (simp; done) | (simp; omega)) _ | refine Below.setCell ?_ (by first | omega | (simp; done) | (simp; omega)) _ | refine Below.then ?_ hb9 (by first | omega | (simp; done) | (simp; omega)) | refine Below.then ?_ hb8 (by first | omega | (simp; done) | (simp; omega)) | refine Below.then ?_ hb7 (by first | omega | (simp; done) | (simp; omega)) | refine Below.then ?_ hb6 (by first | omega | (simp; done) | (simp; omega)) | refine Below.then ?_ hb5 (by first | omega | (simp; done) | (simp; omega)) | refine Below.then ?_ hb4 (by first | omega | (simp; done) | (simp; omega)) | refine Below.then ?_ hb3 (by first | omega | (simp; done) | (simp; omega)) | refine Below.then ?_ hb2 (by first | omega | (simp; done) | (simp; omega)) | refine Below.then ?_ hb1 (by first | omega | (simp; done) | (simp; omega))))⟩
theorem arNone_calls (p b : Nat) (l : List Int) (w : World) (h : Ar w p b l) : Calls Try.prog 54 #[.pointer (some ⟨p, 0, none⟩)] w fun e w' => e = .returned (.bool false) ∧ Below w.heap.size w w' := by
  have hc := h.cell
  have hp := h.pos
  have h0 : ((l.length : Int) == 0) = false := by rw [beq_eq_false_iff_ne]; omega
  go_enter Try.func54, Try.ntmps54
  go_wp2
  go_ret
  exact ⟨rfl, by (repeat (first | exact Below.refl _ _ | (with_reducible assumption) | refine Below.drew ?_ | refine Below.drewN' ?_ _ | refine Below.alloc ?_ (by first | omega | (simp; done) | (simp; omega)) _ | refine Below.setCell ?_ (by first | omega | (simp; done) | (simp; omega)) _ | refine Below.then ?_ hb9 (by first | omega | (simp; done) | (simp; omega)) | refine Below.then ?_ hb8 (by first | omega | (simp; done) | (simp; omega)) | refine Below.then ?_ hb7 (by first | omega | (simp; done) | (simp; omega)) | refine Below.then ?_ hb6 (by first | omega | (simp; done) | (simp; omega)) | refine Below.then ?_ hb5 (by first | omega | (simp; done) | (simp; omega)) | refine Below.then ?_ hb4 (by first | omega | (simp; done) | (simp; omega)) | refine Below.then ?_ hb3 (by first | omega | (simp; done) | (simp; omega)) | refine Below.then ?_ hb2 (by first | omega | (simp; done) | (simp; omega)) | refine Below.then ?_ hb1 (by first | omega | (simp; done) | (simp; omega))))⟩
theorem arNone_empty (p : Nat) (w : World) (hc : w.cell? ⟨p, 0, none⟩ = some (.slice none 0 0)) : Calls Try.prog 54 #[.pointer (some ⟨p, 0, none⟩)] w fun e w' => e = .returned (.bool true) ∧ Below w.heap.size w w' := by
  go_enter Try.func54, Try.ntmps54
  go_wp2
  go_ret
  exact ⟨rfl, by (repeat (first | exact Below.refl _ _ | (with_reducible assumption) | refine Below.drew ?_ | refine Below.drewN' ?_ _ | refine Below.alloc ?_ (by first | omega | (simp; done) | (simp; omega)) _ | refine Below.setCell ?_ (by first | omega | (simp; done) | (simp; omega)) _ | refine Below.then ?_ hb9 (by first | omega | (simp; done) | (simp; omega)) | refine Below.then ?_ hb8 (by first | omega | (simp; done) | (simp; omega)) | refine Below.then ?_ hb7 (by first | omega | (simp; done) | (simp; omega)) | refine Below.then ?_ hb6 (by first | omega | (simp; done) | (simp; omega)) | refine Below.then ?_ hb5 (by first | omega | (simp; done) | (simp; omega)) | refine Below.then ?_ hb4 (by first | omega | (simp; done) | (simp; omega)) | refine Below.then ?_ hb3 (by first | omega | (simp; done) | (simp; omega)) | refine Below.then ?_ hb2 (by first | omega | (simp; done) | (simp; omega)) | refine Below.then ?_ hb1 (by first | omega | (simp; done) | (simp; omega))))⟩

theorem arNew_bad (n : Int) (hn : n < 1 ∨ 16384 < n) (w : World) : Calls Try.prog 48 #[.int .i64 n] w fun e w' => e = .returned (.tuple #[.pointer none, .int .i64 2]) ∧ Below w.heap.size w w' := by
  by_cases h1 : n < 1
  · go_enter Try.func48, Try.ntmps48
    go_wp2
    go_ret2
    exact ⟨rfl, by (repeat (first | exact Below.refl _ _ | (with_reducible assumption) | refine Below.drew ?_ | refine Below.drewN' ?_ _ | refine Below.alloc ?_ (by first | omega | (simp; done) | (simp; omega)) _ | refine Below.setCell ?_ (by first | omega | (simp; done) | (simp; omega)) _ | refine Below.then ?_ hb9 (by first | omega | (simp; done) | (simp; omega)) | refine Below.then ?_ hb8 (by first | omega | (simp; done) | (simp; omega)) | refine Below.then ?_ hb7 (by first | omega | (simp; done) | (simp; omega)) | refine Below.then ?_ hb6 (by first | omega | (simp; done) | (simp; omega)) | refine Below.then ?_ hb5 (by first | omega | (simp; done) | (simp; omega)) | refine Below.then ?_ hb4 (by first | omega | (simp; done) | (simp; omega)) | refine Below.then ?_ hb3 (by first | omega | (simp; done) | (simp; omega)) | refine Below.then ?_ hb2 (by first | omega | (simp; done) | (simp; omega)) | refine Below.then ?_ hb1 (by first | omega | (simp; done) | (simp; omega))))⟩
  · have h2 : 16384 < n := by omega
    go_enter Try.func48, Try.ntmps48
    go_wp2
    go_ret2
    exact ⟨rfl, by (repeat (first | exact Below.refl _ _ | (with_reducible assumption) | refine Below.drew ?_ | refine Below.drewN' ?_ _ | refine Below.alloc ?_ (by first | omega | (simp; done) | (simp; omega)) _ | refine Below.setCell ?_ (by first | omega | (simp; done) | (simp; omega)) _ | refine Below.then ?_ hb9 (by first | omega | (simp; done) | (simp; omega)) | refine Below.then ?_ hb8 (by first | omega | (simp; done) | (simp; omega)) | refine Below.then ?_ hb7 (by first | omega | (simp; done) | (simp; omega)) | refine Below.then ?_ hb6 (by first | omega | (simp; done) | (simp; omega)) | refine Below.then ?_ hb5 (by first | omega | (simp; done) | (simp; omega)) | refine Below.then ?_ hb4 (by first | omega | (simp; done) | (simp; omega)) | refine Below.then ?_ hb3 (by first | omega | (simp; done) | (simp; omega)) | refine Below.then ?_ hb2 (by first | omega | (simp; done) | (simp; omega)) | refine Below.then ?_ hb1 (by first | omega | (simp; done) | (simp; omega))))⟩
theorem made_u64 (n : Nat) : madeCells (#[.int .u64 0] : Array Value) (n * 1) = u64s (List.replicate n 0) := by
  apply Array.ext
  · simp [madeCells, u64s]
  · intro i h1 h2
    simp [madeCells, u64s, Nat.mod_one]
set_option maxRecDepth 100000 in
theorem run_makeU64 (w : World) (n : Nat) (h : n ≤ 16384) : (Instr.makeSlice 27 (.int .i64 (n : Int)) (.int .i64 (n : Int))).run Try.prog w = .ok (.slice (some ⟨w.heap.size, 0, none⟩) n n) (w.alloc (.cells (u64s (List.replicate n 0)) 41)) := by
  obtain ⟨i, hi, hz, hs, hb⟩ : ∃ i, Try.prog.info? 41 = some i ∧ i.zero = some (.int .u64 0) ∧ i.size = 1 ∧ i.bytes = 8 := ⟨_, rfl, rfl, rfl, rfl⟩
  have := run_make (P := Try.prog) w 27 41 i (.int .u64 0) Try.underlying27 hi hz .i64 .i64 n n (by omega) (by omega) (by rw [hb]; omega) (by omega)
  rw [this, hs]
  have e : (Value.int .u64 0).cells = #[.int .u64 0] := rfl
  rw [e, Int.toNat_natCast, made_u64]

theorem arNew_calls (n : Nat) (h1 : 1 ≤ n) (h2 : n ≤ 16384) (w : World) : Calls Try.prog 48 #[.int .i64 (n : Int)] w fun e w' =>
    e = .returned (.tuple #[.pointer (some ⟨w.heap.size + 1, 0, none⟩), .int .i64 0]) ∧ Ar w' (w.heap.size + 1) w.heap.size (List.replicate n 0) ∧ Below w.heap.size w w' := by
  have h3 : ¬ (n : Int) < 1 := by omega
  have h4 : ¬ (16384 : Int) < n := by omega
  have hm := fun W => run_makeU64 W n h2
  go_enter Try.func48, Try.ntmps48
  go_wp2
  go_ret2
  refine ⟨rfl, ⟨?_, ?_, ?_, by rw [List.length_replicate]; omega, by rw [List.length_replicate]; omega⟩, by (repeat (first | exact Below.refl _ _ | (with_reducible assumption) | refine Below.drew ?_ | refine Below.drewN' ?_ _ | refine Below.alloc ?_ (by first | omega | (simp; done) | (simp; omega)) _ | refine Below.setCell ?_ (by first | omega | (simp; done) | (simp; omega)) _ | refine Below.then ?_ hb9 (by first | omega | (simp; done) | (simp; omega)) | refine Below.then ?_ hb8 (by first | omega | (simp; done) | (simp; omega)) | refine Below.then ?_ hb7 (by first | omega | (simp; done) | (simp; omega)) | refine Below.then ?_ hb6 (by first | omega | (simp; done) | (simp; omega)) | refine Below.then ?_ hb5 (by first | omega | (simp; done) | (simp; omega)) | refine Below.then ?_ hb4 (by first | omega | (simp; done) | (simp; omega)) | refine Below.then ?_ hb3 (by first | omega | (simp; done) | (simp; omega)) | refine Below.then ?_ hb2 (by first | omega | (simp; done) | (simp; omega)) | refine Below.then ?_ hb1 (by first | omega | (simp; done) | (simp; omega))))⟩
  · rw [List.length_replicate]
    have := (MapKept.heap_alloc (w.alloc (Obj.cells (u64s (List.replicate n 0)) 41)) (Obj.cells #[Value.slice (some { block := w.heap.size, off := 0 }) n n] 118)).1
    rw [show (w.alloc (Obj.cells (u64s (List.replicate n 0)) 41)).heap.size = w.heap.size + 1 by simp] at this
    exact this
  · rw [Below.heap_alloc _ _ _ (by simp)]
    exact (MapKept.heap_alloc w _).1
  · intro x hx
    rw [(List.mem_replicate.1 hx).2]
    decide

/-- the words of a slice of words that is an argument -/
def WdsOf (W : World) (a : Option Addr) (l : List Int) : Prop := SlOf W a (l.map (fun x => Value.int .u64 x))
theorem Ar.row {W : World} {p b : Nat} {l l' : List Int} (h : Ar W p b l) (hl : l'.length = l.length) (hr : ∀ x ∈ l', 0 ≤ x ∧ x < 18446744073709551616) : Ar (W.setRow b (u64s l')) p b l' := by
  refine ⟨?_, ?_, hr, by rw [hl]; exact h.pos, by rw [hl]; exact h.len⟩
  · rw [setRow_other W b p _ h.ne, hl]; exact h.box
  · exact setRow_heap W b _ _ _ _ h.words
set_option maxRecDepth 100000 in
theorem arOf_calls (a : Option Addr) (c : Nat) (l : List Int) (h1 : 1 ≤ l.length) (h2 : l.length ≤ 16384) (hr : ∀ x ∈ l, 0 ≤ x ∧ x < 18446744073709551616) (w : World) (h : WdsOf w a l) :
    Calls Try.prog 11 #[.slice a l.length c] w fun e w' =>
      e = .returned (.tuple #[.pointer (some ⟨w.heap.size + 1, 0, none⟩), .int .i64 0]) ∧ Ar w' (w.heap.size + 1) w.heap.size l ∧ Below w.heap.size w w' := by
  have HN := Lib.hid (arNew_calls l.length h1 h2 w)
  rcases h with h | ⟨sb, so, rfl, hsb, hsc⟩
  · have := congrArg List.length h
    rw [List.length_map, List.length_nil] at this
    omega
  have HS := Lib.hid hsc
  clear hsc
  go_enter Try.func11, Try.ntmps11
  go_wp2_with fail
  refine HN.out.mono ?_; rintro e1 w1 ⟨rfl, ha1, hb1⟩
  have hc := ha1.cell
  rw [List.length_replicate] at hc
  have HA := Lib.hid ha1
  clear ha1
  have hcp := run_copy_row (P := Try.prog) w1 27 27 3 41 w.heap.size 0 l.length l.length ⟨sb, so, none⟩ l.length c (u64s (List.replicate l.length 0)) 41 (l.map (fun x => Value.int .u64 x)) Try.underlying27 rfl HA.out.words (by rw [List.length_map]; exact (Nat.min_self _).symm)
    (fun j v hv => by
      obtain ⟨hj, rfl⟩ := List.getElem?_eq_some_iff.1 hv
      have e : (⟨sb, so, none⟩ : Addr).add j = ⟨sb, so + j, none⟩ := by unfold Addr.add; split <;> simp_all
      rw [e]
      exact (hb1.cell (p := ⟨sb, so + j, none⟩) hsb).trans (HS.out j hj))
    (by rw [u64s_size, List.length_map, List.length_replicate]; omega) (fun v hv => by obtain ⟨x, _, rfl⟩ := List.mem_map.1 hv; rfl)
  have e5 : (u64s (List.replicate l.length 0)).toList.take 0 ++ l.map (fun x => Value.int .u64 x) ++ (u64s (List.replicate l.length 0)).toList.drop (0 + (l.map (fun x => Value.int .u64 x)).length) = (l.map (fun x => Value.int .u64 x)) := by
    simp [u64s]
  rw [e5] at hcp
  clear e5
  have hA2 := Lib.hid (HA.out.row (l' := l) (by rw [List.length_replicate]) hr)
  unfold u64s at hA2
  generalize hW : w1.setRow w.heap.size (l.map (fun x => Value.int .u64 x)).toArray = W2 at hcp hA2
  have hb2 : Below w.heap.size w W2 := by rw [← hW]; exact below_setRow hb1 (Nat.le_refl _) _
  clear hW
  go_wp2
  go_ret2
  exact ⟨rfl, hA2.out, hb2⟩

def accV (k at_ old nw : Int) : Value := .agg #[.int .i64 k, .int .i64 at_, .int .u64 old, .int .u64 nw]
set_option maxRecDepth 100000 in
set_option maxHeartbeats 1600000 in
theorem arCheck_load (i : Int) (w : World) : Calls Try.prog 53 #[accV 1 i 0 0] w fun e w' => e = .returned (.int .i64 0) ∧ Below w.heap.size w w' := by
  unfold accV
  go_enter Try.func53, Try.ntmps53
  go_wp2_with fail
  refine wp_scope_once 0 rfl ?_
  go_wp2_with fail
  go_quiet (fail)
  go_wp2
  simp only [Exit.jump]
  go_ret
  exact ⟨rfl, by (repeat (first | exact Below.refl _ _ | (with_reducible assumption) | refine Below.drew ?_ | refine Below.drewN' ?_ _ | refine Below.alloc ?_ (by first | omega | (simp; done) | (simp; omega)) _ | refine Below.setCell ?_ (by first | omega | (simp; done) | (simp; omega)) _ | refine Below.then ?_ hb9 (by first | omega | (simp; done) | (simp; omega)) | refine Below.then ?_ hb8 (by first | omega | (simp; done) | (simp; omega)) | refine Below.then ?_ hb7 (by first | omega | (simp; done) | (simp; omega)) | refine Below.then ?_ hb6 (by first | omega | (simp; done) | (simp; omega)) | refine Below.then ?_ hb5 (by first | omega | (simp; done) | (simp; omega)) | refine Below.then ?_ hb4 (by first | omega | (simp; done) | (simp; omega)) | refine Below.then ?_ hb3 (by first | omega | (simp; done) | (simp; omega)) | refine Below.then ?_ hb2 (by first | omega | (simp; done) | (simp; omega)) | refine Below.then ?_ hb1 (by first | omega | (simp; done) | (simp; omega))))⟩
set_option maxRecDepth 100000 in
set_option maxHeartbeats 1600000 in
theorem arCheck_store (i v : Int) (w : World) : Calls Try.prog 53 #[accV 2 i 0 v] w fun e w' => e = .returned (.int .i64 0) ∧ Below w.heap.size w w' := by
  unfold accV
  go_enter Try.func53, Try.ntmps53
  go_wp2_with fail
  refine wp_scope_once 0 rfl ?_
  go_wp2_with fail
  go_quiet (fail)
  go_wp2
  simp only [Exit.jump]
  go_ret
  exact ⟨rfl, by (repeat (first | exact Below.refl _ _ | (with_reducible assumption) | refine Below.drew ?_ | refine Below.drewN' ?_ _ | refine Below.alloc ?_ (by first | omega | (simp; done) | (simp; omega)) _ | refine Below.setCell ?_ (by first | omega | (simp; done) | (simp; omega)) _ | refine Below.then ?_ hb9 (by first | omega | (simp; done) | (simp; omega)) | refine Below.then ?_ hb8 (by first | omega | (simp; done) | (simp; omega)) | refine Below.then ?_ hb7 (by first | omega | (simp; done) | (simp; omega)) | refine Below.then ?_ hb6 (by first | omega | (simp; done) | (simp; omega)) | refine Below.then ?_ hb5 (by first | omega | (simp; done) | (simp; omega)) | refine Below.then ?_ hb4 (by first | omega | (simp; done) | (simp; omega)) | refine Below.then ?_ hb3 (by first | omega | (simp; done) | (simp; omega)) | refine Below.then ?_ hb2 (by first | omega | (simp; done) | (simp; omega)) | refine Below.then ?_ hb1 (by first | omega | (simp; done) | (simp; omega))))⟩
set_option maxRecDepth 100000 in
set_option maxHeartbeats 1600000 in
theorem arCheck_cas (i o v : Int) (w : World) : Calls Try.prog 53 #[accV 3 i o v] w fun e w' => e = .returned (.int .i64 0) ∧ Below w.heap.size w w' := by
  unfold accV
  go_enter Try.func53, Try.ntmps53
  go_wp2_with fail
  refine wp_scope_once 0 rfl ?_
  go_wp2_with fail
  go_quiet (fail)
  go_wp2
  simp only [Exit.jump]
  go_ret
  exact ⟨rfl, by (repeat (first | exact Below.refl _ _ | (with_reducible assumption) | refine Below.drew ?_ | refine Below.drewN' ?_ _ | refine Below.alloc ?_ (by first | omega | (simp; done) | (simp; omega)) _ | refine Below.setCell ?_ (by first | omega | (simp; done) | (simp; omega)) _ | refine Below.then ?_ hb9 (by first | omega | (simp; done) | (simp; omega)) | refine Below.then ?_ hb8 (by first | omega | (simp; done) | (simp; omega)) | refine Below.then ?_ hb7 (by first | omega | (simp; done) | (simp; omega)) | refine Below.then ?_ hb6 (by first | omega | (simp; done) | (simp; omega)) | refine Below.then ?_ hb5 (by first | omega | (simp; done) | (simp; omega)) | refine Below.then ?_ hb4 (by first | omega | (simp; done) | (simp; omega)) | refine Below.then ?_ hb3 (by first | omega | (simp; done) | (simp; omega)) | refine Below.then ?_ hb2 (by first | omega | (simp; done) | (simp; omega)) | refine Below.then ?_ hb1 (by first | omega | (simp; done) | (simp; omega))))⟩

theorem wdsLoad_calls (p b : Nat) (l : List Int) (i : Nat) (hi : i < l.length) (o n k : Int) (w : World) (h : Ar w p b l) : Calls Try.prog 55 #[.pointer (some ⟨p, 0, none⟩), accV k (i : Int) o n] w fun e w' => e = .returned (.int .u64 l[i]) ∧ Below w.heap.size w w' := by
  have hc := h.cell
  have hv := h.at i hi
  have h1 : (i : Int) < (l.length : Int) := by omega
  have hp := h.pb
  have hb := h.bb
  clear h
  unfold accV
  go_enter Try.func55, Try.ntmps55
  go_wp2_with fail
  go_quiet (fail)
  go_wp2
  go_ret
  exact ⟨rfl, by (repeat (first | exact Below.refl _ _ | (with_reducible assumption) | refine Below.drew ?_ | refine Below.drewN' ?_ _ | refine Below.alloc ?_ (by first | omega | (simp; done) | (simp; omega)) _ | refine Below.setCell ?_ (by first | omega | (simp; done) | (simp; omega)) _ | refine Below.then ?_ hb9 (by first | omega | (simp; done) | (simp; omega)) | refine Below.then ?_ hb8 (by first | omega | (simp; done) | (simp; omega)) | refine Below.then ?_ hb7 (by first | omega | (simp; done) | (simp; omega)) | refine Below.then ?_ hb6 (by first | omega | (simp; done) | (simp; omega)) | refine Below.then ?_ hb5 (by first | omega | (simp; done) | (simp; omega)) | refine Below.then ?_ hb4 (by first | omega | (simp; done) | (simp; omega)) | refine Below.then ?_ hb3 (by first | omega | (simp; done) | (simp; omega)) | refine Below.then ?_ hb2 (by first | omega | (simp; done) | (simp; omega)) | refine Below.then ?_ hb1 (by first | omega | (simp; done) | (simp; omega))))⟩
theorem wdsStore_calls (p b : Nat) (l : List Int) (i : Nat) (hi : i < l.length) (o n k : Int) (w : World) (h : Ar w p b l) : Calls Try.prog 56 #[.pointer (some ⟨p, 0, none⟩), accV k (i : Int) o n] w fun e w' => e = .returned (.int .u64 0) ∧ Below w.heap.size (w.setCell ⟨b, i, none⟩ (.int .u64 n)) w' := by
  have hc := h.cell
  have hv := h.at i hi
  have h1 : (i : Int) < (l.length : Int) := by omega
  have hp := h.pb
  have hb := h.bb
  have hf := h.fz i
  clear h
  unfold accV
  go_enter Try.func56, Try.ntmps56
  go_wp2_with fail
  go_region
  go_wp2
  go_ret
  exact ⟨rfl, by (repeat (first | exact Below.refl _ _ | (with_reducible assumption) | refine Below.drew ?_ | refine Below.drewN' ?_ _ | refine Below.alloc ?_ (by first | omega | (simp; done) | (simp; omega)) _ | refine Below.setCell ?_ (by first | omega | (simp; done) | (simp; omega)) _ | refine Below.then ?_ hb9 (by first | omega | (simp; done) | (simp; omega)) | refine Below.then ?_ hb8 (by first | omega | (simp; done) | (simp; omega)) | refine Below.then ?_ hb7 (by first | omega | (simp; done) | (simp; omega)) | refine Below.then ?_ hb6 (by first | omega | (simp; done) | (simp; omega)) | refine Below.then ?_ hb5 (by first | omega | (simp; done) | (simp; omega)) | refine Below.then ?_ hb4 (by first | omega | (simp; done) | (simp; omega)) | refine Below.then ?_ hb3 (by first | omega | (simp; done) | (simp; omega)) | refine Below.then ?_ hb2 (by first | omega | (simp; done) | (simp; omega)) | refine Below.then ?_ hb1 (by first | omega | (simp; done) | (simp; omega))))⟩

end Go.Proofs.Ytafenndokmccoaa
