/- The layer 'shape': a field's kind by its letter. -/
import Derived.Test.YtafenndokmccoaaShapeB
import Derived.Shelf.RegionOpen
import Derived.Deep.RegionWith
namespace Go.Proofs.Ytafenndokmccoaa
open Go.RowKit Go.Shelf
set_option linter.unusedVariables false
set_option linter.unusedSimpArgs false
attribute [local go_sem] Oper.semAt_some

def byteAt (s : ByteArray) (i : Nat) : Int := ((s.data.toList.getD i 0).toNat : Int)
theorem byteAt_get (s : ByteArray) (k : Nat) (h : k < s.size) : byteAt s k = (s[k].toNat : Int) := by
  unfold byteAt
  have e : s.data.toList.getD k 0 = s[k] := by
    rw [List.getD_eq_getElem?_getD, List.getElem?_eq_getElem (by simpa using h)]
    simp
    rfl
  rw [e]

set_option maxRecDepth 100000 in
set_option maxHeartbeats 1600000 in
theorem kindFn_calls (s : ByteArray) (k : Nat) (hk : k < s.size) (B C : Nat) (w : World) (hB : B < w.heap.size) (hC : C < w.heap.size) (hb : w.cell? ⟨B, 0, none⟩ = some (.string s)) (hc : w.cell? ⟨C, 0, none⟩ = some (.int .i64 k)) :
    Calls Try.prog 177 #[.pointer (some ⟨B, 0, none⟩), .pointer (some ⟨C, 0, none⟩)] w fun e w' => e = .returned (.int .i64 (letterK (byteAt s k))) ∧ Below w.heap.size w w' := by
  have hl := (letter_ask (w.alloc lettersMap).drew w.heap.size (byteAt s k) (MapKept.heap_alloc w _).1).2
  rw [byteAt_get s k hk] at hl ⊢
  have hw : IntKind.i32.wrap (s[k].toNat : Int) = (s[k].toNat : Int) := by
    have := s[k].toNat_lt
    simp [IntKind.wrap, IntKind.bits, IntKind.signed]
    omega
  go_enter Try.func177, Try.ntmps177
  go_wp2_with fail
  go_region_with (go_at_call 123; refine (letters_calls _).mono ?_; rintro e2 w2 ⟨rfl, rfl⟩)
  all_goals
    go_wp2
    go_ret
    exact ⟨rfl, by (repeat (first | exact Below.refl _ _ | (with_reducible assumption) | refine Below.drew ?_ | refine Below.drewN' ?_ _ | refine Below.alloc ?_ (by first | omega | (simp; done) | (simp; omega)) _ | refine Below.setCell ?_ (by first | omega | (simp; done) | (simp; omega)) _ | refine Below.then ?_ hb9 (by first | omega | (simp; done) | (simp; omega)) | refine Below.then ?_ hb8 (by first | omega | (simp; done) | (simp; omega)) | refine Below.then ?_ hb7 (by first | omega | (simp; done) | (simp; omega)) | refine Below.then ?_ hb6 (by first | omega | (simp; done) | (simp; omega)) | refine Below.then ?_ hb5 (by first | omega | (simp; done) | (simp; omega)) | refine Below.then ?_ hb4 (by first | omega | (simp; done) | (simp; omega)) | refine Below.then ?_ hb3 (by first | omega | (simp; done) | (simp; omega)) | refine Below.then ?_ hb2 (by first | omega | (simp; done) | (simp; omega)) | refine Below.then ?_ hb1 (by first | omega | (simp; done) | (simp; omega))))⟩

end Go.Proofs.Ytafenndokmccoaa
