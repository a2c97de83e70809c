/- Worlds that differ in some blocks alone. -/
import Derived.Test.YtafenndokmccoaaKit
namespace Go.Proofs.Ytafenndokmccoaa
open Go.RowKit
set_option linter.unusedVariables false
set_option linter.unusedSimpArgs false

/-- what a call may write: the blocks of S, and what is new -/
structure Only (S : Nat → Prop) (w w' : World) : Prop where
  os : w'.os = w.os
  tape : w'.tape = w.tape
  output : w'.output = w.output
  size : w.heap.size ≤ w'.heap.size
  block : ∀ k, k < w.heap.size → ¬ S k → w'.heap[k]? = w.heap[k]?

theorem Only.refl (S : Nat → Prop) (w : World) : Only S w w := ⟨rfl, rfl, rfl, Nat.le_refl _, fun _ _ _ => rfl⟩
theorem Only.trans {S : Nat → Prop} {a b c : World} (h : Only S a b) (k : Only S b c) : Only S a c :=
  ⟨k.os.trans h.os, k.tape.trans h.tape, k.output.trans h.output, Nat.le_trans h.size k.size, fun i hi hs => (k.block i (Nat.lt_of_lt_of_le hi h.size) hs).trans (h.block i hi hs)⟩
theorem Only.of {S : Nat → Prop} {w w' : World} (h : Below w.heap.size w w') : Only S w w' := ⟨h.os, h.tape, h.output, h.size, fun k hk _ => h.block k hk⟩
theorem Only.then {S : Nat → Prop} {a w w1 : World} (h : Only S a w) (hb : Below w.heap.size w w1) : Only S a w1 := h.trans (Only.of hb)
theorem Only.mono {S T : Nat → Prop} {w w' : World} (h : Only S w w') (hST : ∀ k, k < w.heap.size → S k → T k) : Only T w w' :=
  ⟨h.os, h.tape, h.output, h.size, fun k hk ht => h.block k hk fun hs => ht (hST k hk hs)⟩
theorem Only.drew {S : Nat → Prop} {a w : World} (h : Only S a w) : Only S a w.drew := ⟨h.os, h.tape, h.output, h.size, h.block⟩
theorem Only.drewN {S : Nat → Prop} {a w : World} (h : Only S a w) (n : Nat) : Only S a (w.drewN n) := h.then (Below.drewN' (Below.refl _ _) _)
theorem Only.alloc {S : Nat → Prop} {a w : World} (h : Only S a w) (o : Obj) : Only S a (w.alloc o) := h.then ((Below.refl _ _).alloc (Nat.le_refl _) _)
theorem Only.setCell {S : Nat → Prop} {a w : World} (h : Only S a w) {p : Addr} (hp : S p.block ∨ a.heap.size ≤ p.block) (u : Value) : Only S a (w.setCell p u) :=
  ⟨h.os, h.tape, h.output, by simpa [World.setCell] using h.size, fun k hk hs => by
    rw [Below.heap_setCell _ _ _ _ (fun e => by subst e; rcases hp with hp | hp; exact hs hp; omega)]
    exact h.block k hk hs⟩
/-- below what is written nothing has changed -/
theorem Only.below {S : Nat → Prop} {w w' : World} {B : Nat} (h : Only S w w') (hB : B ≤ w.heap.size) (hS : ∀ k, S k → B ≤ k) : Below B w w' :=
  ⟨h.os, h.tape, h.output, h.size, fun k hk => h.block k (Nat.lt_of_lt_of_le hk hB) fun hs => by have := hS k hs; omega⟩
theorem Only.blk {S : Nat → Prop} {w w' : World} (h : Only S w w') {k : Nat} {o : Obj} (hs : ¬ S k) (hb : w.heap[k]? = some o) : w'.heap[k]? = some o :=
  (h.block k (Array.getElem?_eq_some_iff.1 hb).1 hs).trans hb
theorem Only.cell {S : Nat → Prop} {w w' : World} (h : Only S w w') {p : Addr} (hp : p.block < w.heap.size) (hs : ¬ S p.block) : w'.cell? p = w.cell? p := World.cell?_of_block (w := w) (h.block p.block hp hs)
theorem SlOf.only {S : Nat → Prop} {w w' : World} {a : Option Addr} {vs : List Value} (h : SlOf w a vs) (hb : Only S w w') (hs : ∀ ad, a = some ad → ¬ S ad.block) : SlOf w' a vs := by
  rcases h with h | ⟨b, o, ha, hlt, hc⟩
  · exact .inl h
  · exact .inr ⟨b, o, ha, Nat.lt_of_lt_of_le hlt hb.size, fun i hi => (hb.cell (p := ⟨b, o + i, none⟩) hlt (show ¬ S b from hs ⟨b, o, none⟩ ha)).trans (hc i hi)⟩

theorem blk_lt {W : World} {p : Nat} {o : Obj} (h : W.heap[p]? = some o) : p < W.heap.size := (Array.getElem?_eq_some_iff.1 h).1
theorem blk_set {W : World} {p : Nat} {xs : Array Value} {ty : TypeId} {z : Nat × Nat} (h : W.heap[p]? = some (.cells xs ty z)) (i : Nat) (v : Value) :
    (W.setCell ⟨p, i, none⟩ v).heap[p]? = some (.cells (xs.setIfInBounds i v) ty z) := by
  simp only [World.setCell, Array.getElem?_modify, if_true, h, Option.map_some]
  rfl
theorem blk_off {W : World} {p q : Nat} {o : Obj} (h : W.heap[p]? = some o) (i : Nat) (v : Value) (hne : p ≠ q) : (W.setCell ⟨q, i, none⟩ v).heap[p]? = some o :=
  (Below.heap_setCell _ _ _ _ hne).trans h
theorem blk_alloc {W : World} {p : Nat} {o : Obj} (h : W.heap[p]? = some o) (o' : Obj) : (W.alloc o').heap[p]? = some o :=
  (Below.heap_alloc _ _ _ (blk_lt h)).trans h
theorem blk_below {W W' : World} {p : Nat} {o : Obj} (h : W.heap[p]? = some o) (hb : Below W.heap.size W W') : W'.heap[p]? = some o := (hb.block p (blk_lt h)).trans h
theorem blk_drew {W : World} {p : Nat} {o : Obj} (h : W.heap[p]? = some o) : W.drew.heap[p]? = some o := h
theorem blk_drewN {W : World} {p : Nat} {o : Obj} (h : W.heap[p]? = some o) (n : Nat) : (W.drewN n).heap[p]? = some o := blk_below h (Below.drewN' (Below.refl _ _) _)
theorem blk_cell {W : World} {p : Nat} {xs : Array Value} {ty : TypeId} {z : Nat × Nat} (h : W.heap[p]? = some (.cells xs ty z)) (i : Nat) (v : Value) (hv : xs[i]? = some v) : W.cell? ⟨p, i, none⟩ = some v := by
  simp only [World.cell?, h]
  exact hv
theorem blk_fz {W : World} {p : Nat} {xs : Array Value} {ty : TypeId} (h : W.heap[p]? = some (.cells xs ty (0, 0))) (i : Nat) : W.frozen? ⟨p, i, none⟩ = false := by
  simp [World.frozen?, h]
theorem blk_eq {W : World} {p : Nat} {xs ys : Array Value} {ty : TypeId} {z : Nat × Nat} (h : W.heap[p]? = some (.cells xs ty z)) (e : xs = ys) : W.heap[p]? = some (.cells ys ty z) := by rw [← e]; exact h
end Go.Proofs.Ytafenndokmccoaa
