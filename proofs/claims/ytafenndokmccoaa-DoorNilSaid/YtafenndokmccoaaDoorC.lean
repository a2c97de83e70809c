/- The layer 'door': its machine. -/
import Derived.Test.YtafenndokmccoaaDoorB
import Derived.Test.YtafenndokmccoaaOnly
import Derived.Test.YtafenndokmccoaaKindD
import Derived.Test.YtafenndokmccoaaHeadSize
namespace Go.Proofs.Ytafenndokmccoaa
open Go.RowKit
set_option linter.unusedVariables false
set_option linter.unusedSimpArgs false

set_option maxRecDepth 100000 in
set_option maxHeartbeats 800000 in
theorem dEnd_calls (p : Nat) (xs : Array Value) (hx : 29 ≤ xs.size) (e ob at_ : Int) (w : World) (h : w.heap[p]? = some (.cells xs 105 (0, 0))) :
    Calls Try.prog 121 #[.pointer (some ⟨p, 0, none⟩), .agg #[.int .i64 e, .int .i64 ob, .int .i64 at_]] w fun r w' =>
      r = .returned (.tuple #[.agg #[.int .i64 0, .int .i64 0, .int .u64 0, .int .u64 0], .bool false]) ∧ Only (· = p) w w' ∧
      w'.heap[p]? = some (.cells (((((xs.setIfInBounds 25 (.bool true)).setIfInBounds 26 (.int .i64 e)).setIfInBounds 27 (.int .i64 ob)).setIfInBounds 28 (.int .i64 at_)).setIfInBounds 24 .nilFunc) 105 (0, 0)) := by
  have hp := blk_lt h
  have hne : ¬ w.heap.size = p := by omega
  have hnf : ¬ p = w.heap.size := by omega
  have hne1 : ¬ w.heap.size + 1 = p := by omega
  have hnf1 : ¬ p = w.heap.size + 1 := by omega
  have q24 : w.cell? ⟨p, 24, none⟩ = some xs[24] := blk_cell h 24 _ (by simp)
  have q25 : w.cell? ⟨p, 25, none⟩ = some xs[25] := blk_cell h 25 _ (by simp)
  have q26 : w.cell? ⟨p, 26, none⟩ = some xs[26] := blk_cell h 26 _ (by simp)
  have q27 : w.cell? ⟨p, 27, none⟩ = some xs[27] := blk_cell h 27 _ (by simp)
  have q28 : w.cell? ⟨p, 28, none⟩ = some xs[28] := blk_cell h 28 _ (by simp)
  have f24 := blk_fz h 24
  have f25 := blk_fz h 25
  have f26 := blk_fz h 26
  have f27 := blk_fz h 27
  have f28 := blk_fz h 28
  have HB := Lib.hid h
  clear h
  go_enter Try.func121, Try.ntmps121
  go_wp2_with fail
  go_region
  go_wp2
  exact bodyPost_ret (v := .tuple #[.agg #[.int .i64 0, .int .i64 0, .int .u64 0, .int .u64 0], .bool false]) (by simp [results, Try.results121, go_sem]) rfl ⟨rfl, by (repeat (first | (with_reducible exact Only.refl _ _) | (with_reducible assumption) | (with_reducible refine Only.drew ?_) | (with_reducible refine Only.drewN ?_ _) | (with_reducible refine Only.alloc ?_ _) | (with_reducible refine Only.setCell ?_ (by first | exact .inl rfl | (right; first | omega | (simp; done) | (simp; omega)) | (left; simp; done)) _) | (with_reducible refine Only.then ?_ hb9) | (with_reducible refine Only.then ?_ hb8) | (with_reducible refine Only.then ?_ hb7) | (with_reducible refine Only.then ?_ hb6) | (with_reducible refine Only.then ?_ hb5) | (with_reducible refine Only.then ?_ hb4) | (with_reducible refine Only.then ?_ hb3) | (with_reducible refine Only.then ?_ hb2) | (with_reducible refine Only.then ?_ hb1))), by with_reducible exact blk_drew (blk_alloc (blk_alloc (blk_set (blk_set (blk_set (blk_set (blk_set HB.out _ _) _ _) _ _) _ _) _ _) _) _)⟩

/-- an access, and what is told of it -/
def accA (k at_ old new : Int) : Value := .agg #[.int .i64 k, .int .i64 at_, .int .u64 old, .int .u64 new]
theorem dNext_nil (w : World) (v : Int) : Calls Try.prog 40 #[.pointer none, .int .u64 v] w fun r w' => r = .returned (.tuple #[accA 0 0 0 0, .bool false]) ∧ Below w.heap.size w w' := by
  unfold accA
  go_enter Try.func40, Try.ntmps40
  go_wp2
  exact bodyPost_ret (v := .tuple #[.agg #[.int .i64 0, .int .i64 0, .int .u64 0, .int .u64 0], .bool false]) (by simp [results, Try.results40, go_sem, World.cell?_setCell_same', cell_off, *]) rfl ⟨rfl, by (repeat (first | exact Below.refl _ _ | (with_reducible assumption) | refine Below.drew ?_ | refine Below.drewN' ?_ _ | refine Below.alloc ?_ (by first | omega | (simp; done) | (simp; omega)) _ | refine Below.setCell ?_ (by first | omega | (simp; done) | (simp; omega)) _ | refine Below.then ?_ hb9 (by first | omega | (simp; done) | (simp; omega)) | refine Below.then ?_ hb8 (by first | omega | (simp; done) | (simp; omega)) | refine Below.then ?_ hb7 (by first | omega | (simp; done) | (simp; omega)) | refine Below.then ?_ hb6 (by first | omega | (simp; done) | (simp; omega)) | refine Below.then ?_ hb5 (by first | omega | (simp; done) | (simp; omega)) | refine Below.then ?_ hb4 (by first | omega | (simp; done) | (simp; omega)) | refine Below.then ?_ hb3 (by first | omega | (simp; done) | (simp; omega)) | refine Below.then ?_ hb2 (by first | omega | (simp; done) | (simp; omega)) | refine Below.then ?_ hb1 (by first | omega | (simp; done) | (simp; omega))))⟩
theorem dNil_eq (W : World) : (binOp .eql 103 Value.nilFunc Value.nilFunc).run Try.prog W = .ok (.bool true) W := by kernel_rfl
theorem dNil_ne (f : Nat) (W : World) : (binOp .eql 103 (.func (.func f) #[] #[]) Value.nilFunc).run Try.prog W = .ok (.bool false) W := by
  have h : (Op.equalIn (9999 + 1) 103 (.func (.func f) #[] #[]) Value.nilFunc).run Try.prog W = .ok false W := by
    unfold Op.equalIn
    simp [run_underlying Try.underlying103]
  have h' : (Op.equal 103 (.func (.func f) #[] #[]) Value.nilFunc).run Try.prog W = .ok false W := h
  simp [binOp, go_sem, h']
set_option maxRecDepth 100000 in
theorem dNext_idle (p : Nat) (xs : Array Value) (w : World) (v : Int) (hx : xs[24]? = some .nilFunc) (h : w.heap[p]? = some (.cells xs 105 (0, 0))) :
    Calls Try.prog 40 #[.pointer (some ⟨p, 0, none⟩), .int .u64 v] w fun r w' => r = .returned (.tuple #[accA 0 0 0 0, .bool false]) ∧ Below w.heap.size w w' := by
  have q24 : w.cell? ⟨p, 24, none⟩ = some .nilFunc := blk_cell h 24 _ hx
  have hp := blk_lt h
  clear h hx
  have hN := fun W => dNil_eq W
  unfold accA
  go_enter Try.func40, Try.ntmps40
  go_wp2
  exact bodyPost_ret (v := .tuple #[.agg #[.int .i64 0, .int .i64 0, .int .u64 0, .int .u64 0], .bool false]) (by simp [results, Try.results40, go_sem, World.cell?_setCell_same', cell_off, *]) rfl ⟨rfl, by (repeat (first | exact Below.refl _ _ | (with_reducible assumption) | refine Below.drew ?_ | refine Below.drewN' ?_ _ | refine Below.alloc ?_ (by first | omega | (simp; done) | (simp; omega)) _ | refine Below.setCell ?_ (by first | omega | (simp; done) | (simp; omega)) _ | refine Below.then ?_ hb9 (by first | omega | (simp; done) | (simp; omega)) | refine Below.then ?_ hb8 (by first | omega | (simp; done) | (simp; omega)) | refine Below.then ?_ hb7 (by first | omega | (simp; done) | (simp; omega)) | refine Below.then ?_ hb6 (by first | omega | (simp; done) | (simp; omega)) | refine Below.then ?_ hb5 (by first | omega | (simp; done) | (simp; omega)) | refine Below.then ?_ hb4 (by first | omega | (simp; done) | (simp; omega)) | refine Below.then ?_ hb3 (by first | omega | (simp; done) | (simp; omega)) | refine Below.then ?_ hb2 (by first | omega | (simp; done) | (simp; omega)) | refine Below.then ?_ hb1 (by first | omega | (simp; done) | (simp; omega))))⟩
theorem dOut_nil (w : World) : Calls Try.prog 41 #[.pointer none] w fun r w' => r = .returned (.tuple #[.agg #[.int .i64 0, .int .i64 0, .int .i64 0], .bool false]) ∧ Below w.heap.size w w' := by
  go_enter Try.func41, Try.ntmps41
  go_wp2
  exact bodyPost_ret (v := .tuple #[.agg #[.int .i64 0, .int .i64 0, .int .i64 0], .bool false]) (by simp [results, Try.results41, go_sem, World.cell?_setCell_same', cell_off, *]) rfl ⟨rfl, by (repeat (first | exact Below.refl _ _ | (with_reducible assumption) | refine Below.drew ?_ | refine Below.drewN' ?_ _ | refine Below.alloc ?_ (by first | omega | (simp; done) | (simp; omega)) _ | refine Below.setCell ?_ (by first | omega | (simp; done) | (simp; omega)) _ | refine Below.then ?_ hb9 (by first | omega | (simp; done) | (simp; omega)) | refine Below.then ?_ hb8 (by first | omega | (simp; done) | (simp; omega)) | refine Below.then ?_ hb7 (by first | omega | (simp; done) | (simp; omega)) | refine Below.then ?_ hb6 (by first | omega | (simp; done) | (simp; omega)) | refine Below.then ?_ hb5 (by first | omega | (simp; done) | (simp; omega)) | refine Below.then ?_ hb4 (by first | omega | (simp; done) | (simp; omega)) | refine Below.then ?_ hb3 (by first | omega | (simp; done) | (simp; omega)) | refine Below.then ?_ hb2 (by first | omega | (simp; done) | (simp; omega)) | refine Below.then ?_ hb1 (by first | omega | (simp; done) | (simp; omega))))⟩
set_option maxRecDepth 100000 in
theorem dOut_calls (p : Nat) (xs : Array Value) (e ob at_ : Int) (ov : Bool) (w : World) (h25 : xs[25]? = some (.bool ov)) (h26 : xs[26]? = some (.int .i64 e)) (h27 : xs[27]? = some (.int .i64 ob)) (h28 : xs[28]? = some (.int .i64 at_)) (h : w.heap[p]? = some (.cells xs 105 (0, 0))) :
    Calls Try.prog 41 #[.pointer (some ⟨p, 0, none⟩)] w fun r w' => r = .returned (.tuple #[.agg #[.int .i64 e, .int .i64 ob, .int .i64 at_], .bool ov]) ∧ Below w.heap.size w w' := by
  have q25 : w.cell? ⟨p, 25, none⟩ = some (.bool ov) := blk_cell h 25 _ h25
  have q26 : w.cell? ⟨p, 26, none⟩ = some (.int .i64 e) := blk_cell h 26 _ h26
  have q27 : w.cell? ⟨p, 27, none⟩ = some (.int .i64 ob) := blk_cell h 27 _ h27
  have q28 : w.cell? ⟨p, 28, none⟩ = some (.int .i64 at_) := blk_cell h 28 _ h28
  have hp := blk_lt h
  clear h h25 h26 h27 h28
  go_enter Try.func41, Try.ntmps41
  go_wp2_with fail
  go_region
  go_wp2
  exact bodyPost_ret (v := .tuple #[.agg #[.int .i64 e, .int .i64 ob, .int .i64 at_], .bool ov]) (by simp [results, Try.results41, go_sem, World.cell?_setCell_same', cell_off, *]) rfl ⟨rfl, by (repeat (first | exact Below.refl _ _ | (with_reducible assumption) | refine Below.drew ?_ | refine Below.drewN' ?_ _ | refine Below.alloc ?_ (by first | omega | (simp; done) | (simp; omega)) _ | refine Below.setCell ?_ (by first | omega | (simp; done) | (simp; omega)) _ | refine Below.then ?_ hb9 (by first | omega | (simp; done) | (simp; omega)) | refine Below.then ?_ hb8 (by first | omega | (simp; done) | (simp; omega)) | refine Below.then ?_ hb7 (by first | omega | (simp; done) | (simp; omega)) | refine Below.then ?_ hb6 (by first | omega | (simp; done) | (simp; omega)) | refine Below.then ?_ hb5 (by first | omega | (simp; done) | (simp; omega)) | refine Below.then ?_ hb4 (by first | omega | (simp; done) | (simp; omega)) | refine Below.then ?_ hb3 (by first | omega | (simp; done) | (simp; omega)) | refine Below.then ?_ hb2 (by first | omega | (simp; done) | (simp; omega)) | refine Below.then ?_ hb1 (by first | omega | (simp; done) | (simp; omega))))⟩
theorem dCopy_nil (w : World) : Calls Try.prog 42 #[.pointer none] w fun r w' => r = .returned (.pointer none) ∧ Below w.heap.size w w' := by
  go_enter Try.func42, Try.ntmps42
  go_wp2
  go_ret
  exact ⟨rfl, by (repeat (first | exact Below.refl _ _ | (with_reducible assumption) | refine Below.drew ?_ | refine Below.drewN' ?_ _ | refine Below.alloc ?_ (by first | omega | (simp; done) | (simp; omega)) _ | refine Below.setCell ?_ (by first | omega | (simp; done) | (simp; omega)) _ | refine Below.then ?_ hb9 (by first | omega | (simp; done) | (simp; omega)) | refine Below.then ?_ hb8 (by first | omega | (simp; done) | (simp; omega)) | refine Below.then ?_ hb7 (by first | omega | (simp; done) | (simp; omega)) | refine Below.then ?_ hb6 (by first | omega | (simp; done) | (simp; omega)) | refine Below.then ?_ hb5 (by first | omega | (simp; done) | (simp; omega)) | refine Below.then ?_ hb4 (by first | omega | (simp; done) | (simp; omega)) | refine Below.then ?_ hb3 (by first | omega | (simp; done) | (simp; omega)) | refine Below.then ?_ hb2 (by first | omega | (simp; done) | (simp; omega)) | refine Below.then ?_ hb1 (by first | omega | (simp; done) | (simp; omega))))⟩
end Go.Proofs.Ytafenndokmccoaa
