/- The layer 'op': the kinds' rows. -/
import Derived.Test.YtafenndokmccoaaOpA
import Derived.LoopTactic
import Derived.Deep.MidRow
namespace Go.Proofs.Ytafenndokmccoaa
open Go.RowKit
set_option linter.unusedVariables false
set_option linter.unusedSimpArgs false

/-- the rows, where their lists of parts lie from block B on -/
def opRowsV (B : Nat) : Array Value := #[.string ⟨#[]⟩, .slice none 0 0,
  .string ⟨#[97, 108, 108, 111, 99]⟩, .slice (some ⟨B, 0, none⟩) 2 2,
  .string ⟨#[103, 101, 116]⟩, .slice (some ⟨B + 1, 0, none⟩) 3 3,
  .string ⟨#[112, 117, 116]⟩, .slice (some ⟨B + 1 + 1, 0, none⟩) 3 3,
  .string ⟨#[99, 97, 115]⟩, .slice (some ⟨B + 1 + 1 + 1, 0, none⟩) 4 4,
  .string ⟨#[103, 101, 116, 105]⟩, .slice (some ⟨B + 1 + 1 + 1 + 1, 0, none⟩) 2 2,
  .string ⟨#[112, 117, 116, 105]⟩, .slice (some ⟨B + 1 + 1 + 1 + 1 + 1, 0, none⟩) 3 3,
  .string ⟨#[99, 97, 115, 105]⟩, .slice (some ⟨B + 1 + 1 + 1 + 1 + 1 + 1, 0, none⟩) 4 4,
  .string ⟨#[101, 113]⟩, .slice (some ⟨B + 1 + 1 + 1 + 1 + 1 + 1 + 1, 0, none⟩) 2 2,
  .string ⟨#[109, 111, 118, 101]⟩, .slice (some ⟨B + 1 + 1 + 1 + 1 + 1 + 1 + 1 + 1, 0, none⟩) 2 2,
  .string ⟨#[100, 114, 111, 112]⟩, .slice (some ⟨B + 1 + 1 + 1 + 1 + 1 + 1 + 1 + 1 + 1, 0, none⟩) 1 1,
  .string ⟨#[99, 111, 108, 108, 101, 99, 116]⟩, .slice none 0 0]

theorem info_opRows : (Try.prog.info? 258).map (·.size) = some 24 := by kernel_rfl
theorem opRowsV_size (B : Nat) : (opRowsV B).size = 24 := by simp [opRowsV]
theorem opRowsV_one (B : Nat) : (opRowsV B).all (·.oneCell') = true := by simp [opRowsV, Value.oneCell']
/-- the lists of parts, one a block from B on -/
structure NamesAt (w : World) (B : Nat) : Prop where
  n1 : SlOf w (some ⟨B, 0, none⟩) [.int .i64 0, .int .i64 4]
  n2 : SlOf w (some ⟨B + 1, 0, none⟩) [.int .i64 0, .int .i64 3, .int .i64 1]
  n3 : SlOf w (some ⟨B + 1 + 1, 0, none⟩) [.int .i64 0, .int .i64 3, .int .i64 1]
  n4 : SlOf w (some ⟨B + 1 + 1 + 1, 0, none⟩) [.int .i64 0, .int .i64 3, .int .i64 1, .int .i64 2]
  n5 : SlOf w (some ⟨B + 1 + 1 + 1 + 1, 0, none⟩) [.int .i64 0, .int .i64 3]
  n6 : SlOf w (some ⟨B + 1 + 1 + 1 + 1 + 1, 0, none⟩) [.int .i64 0, .int .i64 3, .int .i64 5]
  n7 : SlOf w (some ⟨B + 1 + 1 + 1 + 1 + 1 + 1, 0, none⟩) [.int .i64 0, .int .i64 3, .int .i64 5, .int .i64 6]
  n8 : SlOf w (some ⟨B + 1 + 1 + 1 + 1 + 1 + 1 + 1, 0, none⟩) [.int .i64 0, .int .i64 1]
  n9 : SlOf w (some ⟨B + 1 + 1 + 1 + 1 + 1 + 1 + 1 + 1, 0, none⟩) [.int .i64 0, .int .i64 1]
  n10 : SlOf w (some ⟨B + 1 + 1 + 1 + 1 + 1 + 1 + 1 + 1 + 1, 0, none⟩) [.int .i64 0]
theorem SlOf.newAt (w : World) (vs : List Value) (t : TypeId) (b : Nat) (hb : b = w.heap.size) : SlOf (w.alloc (.cells vs.toArray t (0, 0))) (some ⟨b, 0, none⟩) vs := by
  subst hb; exact SlOf.new w vs t _
theorem SlOf.setCells {b : Nat} : ∀ (us : List Value) (row o : Nat) {w : World} {vs : List Value}, b ≠ row → SlOf w (some ⟨b, 0, none⟩) vs → SlOf (w.setCells row o us) (some ⟨b, 0, none⟩) vs
  | [], _, _, _, _, _, h => h
  | u :: r, row, o, w, vs, hne, h => by
    refine SlOf.setCells r row (o + 1) hne (w := w.setCell ⟨row, o, none⟩ u) ?_
    rcases h with h | ⟨b', o', e, hlt, hc⟩
    · exact .inl h
    · cases e
      exact .inr ⟨_, _, rfl, by rw [World.size_setCell]; exact hlt, fun i hi => (cell_blk _ _ _ _ _ _ (Ne.symm hne)).trans (hc i hi)⟩

set_option maxRecDepth 100000 in
set_option maxHeartbeats 8000000 in
theorem opRows_calls (w : World) : Calls Try.prog 175 #[] w fun e w' => e = .returned (.agg (opRowsV (w.heap.size + 1))) ∧ Below w.heap.size w w' ∧ NamesAt w' (w.heap.size + 1) := by
  go_enter Try.func175, Try.ntmps175
  go_wp2_with ((with_reducible refine at_store (t := 258) (p := 0) rfl ?_); (refine wpList_store_mid ?g 258 (.tmp 0) (.tmp 22) ?ho w.heap.size 0 (opRowsV (w.heap.size + 1)) ?hx ?hy ?ht ?hi (opRowsV_one _) ?rest); (case g => rfl); (case ho => rfl); (case hx => rfl); (case hy => rfl); (case ht => (rw [opRowsV_size]; repeat (first | exact there_newO _ _ _ _ (by simp) | refine there_alloc (by simp; try omega) ?_ _))); (case hi => rw [info_opRows, opRowsV_size]))
  go_wp2_with fail
  refine bodyPost_ret (v := .agg (opRowsV (w.heap.size + 1))) (results_cellO (a := ⟨w.heap.size, 0, none⟩) rfl ?hp ?hl) rfl ⟨rfl, below_cellsO _ (Nat.le_refl _) _ _ ?hb, ?hn⟩
  case hp => rfl
  case hb => (repeat (first | exact Below.refl _ _ | (with_reducible assumption) | refine Below.drew ?_ | refine Below.drewN' ?_ _ | refine Below.alloc ?_ (by first | omega | (simp; done) | (simp; omega)) _ | refine Below.setCell ?_ (by first | omega | (simp; done) | (simp; omega)) _ | refine Below.then ?_ hb9 (by first | omega | (simp; done) | (simp; omega)) | refine Below.then ?_ hb8 (by first | omega | (simp; done) | (simp; omega)) | refine Below.then ?_ hb7 (by first | omega | (simp; done) | (simp; omega)) | refine Below.then ?_ hb6 (by first | omega | (simp; done) | (simp; omega)) | refine Below.then ?_ hb5 (by first | omega | (simp; done) | (simp; omega)) | refine Below.then ?_ hb4 (by first | omega | (simp; done) | (simp; omega)) | refine Below.then ?_ hb3 (by first | omega | (simp; done) | (simp; omega)) | refine Below.then ?_ hb2 (by first | omega | (simp; done) | (simp; omega)) | refine Below.then ?_ hb1 (by first | omega | (simp; done) | (simp; omega))))
  case hn =>
    constructor
    all_goals
      refine SlOf.setCells _ _ _ (by omega) ?_
      repeat (first | (refine SlOf.newAt _ _ _ _ ?_; (simp; done)) | refine SlOf.alloc ?_ _)
  case hl =>
    refine run_loadVar_mid _ _ 0 _ (opRowsV (w.heap.size + 1)).toList _ (World.rangeAt_setCells_same _ _ 0 (opRowsV (w.heap.size + 1)).toList ?ht) Try.underlying258 rfl (by rw [Array.length_toList, opRowsV_size, info_opRows])
    rw [Array.length_toList, opRowsV_size]
    repeat (first | exact there_newO _ _ _ _ (by simp) | refine there_alloc (by simp; try omega) ?_ _)

end Go.Proofs.Ytafenndokmccoaa
