/- Small facts for the walks of this seat: what a later world keeps of an earlier one, and how a struct or two results are handed back. -/
import Derived.Test.YtafenndokmccoaaProg
import Derived.WalkKit
import Derived.WalkSpells
import Derived.WalkLawsBesides
import Derived.Deep.QuietTactic
import Derived.BigQuiet
import Derived.Lib.Hide
import Derived.ScopeJumps
import Derived.WideMake
import Derived.MapKept
namespace Go.Proofs.Ytafenndokmccoaa
open Go.RowKit
set_option linter.unusedVariables false
set_option linter.unusedSimpArgs false

theorem bcell {W w1 : World} (hb : Below W.heap.size W w1) :
    (∀ b o, b < W.heap.size → w1.cell? ⟨b, o, none⟩ = W.cell? ⟨b, o, none⟩) ∧ (∀ b o, b < W.heap.size → w1.frozen? ⟨b, o, none⟩ = W.frozen? ⟨b, o, none⟩) :=
  ⟨fun b o h => hb.cell (p := ⟨b, o, none⟩) h, fun b o h => hb.frozen (p := ⟨b, o, none⟩) h⟩
theorem below_size {B : Nat} {W w1 : World} (hb : Below B W w1) : W.heap.size ≤ w1.heap.size := hb.size
theorem Below.drewN' {B : Nat} {a w : World} (h : Below B a w) (n : Nat) : Below B a (w.drewN n) := below_drewN h n

theorem Below.then {B : Nat} {a w w1 : World} (h : Below B a w) (hb : Below w.heap.size w w1) (hB : B ≤ w.heap.size) : Below B a w1 := h.trans (hb.mono hB)

/-- a cell that is there, behind a store into it, and behind a store into another one -/
theorem cell_put (w : World) (p : Addr) (v : Value) (h : (w.cell? p).isSome = true) : (w.setCell p v).cell? p = some v := World.cell?_setCell_same' _ _ _ h
theorem cell_off (w : World) (b o o' : Nat) (v : Value) (h : o ≠ o') : (w.setCell ⟨b, o, none⟩ v).cell? ⟨b, o', none⟩ = w.cell? ⟨b, o', none⟩ :=
  World.cell?_setCell_other _ _ _ _ (by intro e; cases e; exact h rfl)
theorem cell_blk (w : World) (b b' o o' : Nat) (v : Value) (h : b ≠ b') : (w.setCell ⟨b, o, none⟩ v).cell? ⟨b', o', none⟩ = w.cell? ⟨b', o', none⟩ :=
  World.cell?_setCell_other _ _ _ _ (by intro e; cases e; exact h rfl)

/-- a scope with one label that is jumped to forwards: behind the jump the rest runs straight -/
theorem wp_scope_once {P : Program} {a : Act} {w : World} {Q : Exit → Act → World → Prop} {c rest : Code} (l : Nat) (hf : findLabel c l = some rest)
    (h : c.wp P (Exit.jump l (fun a' w' => rest.wp P (Exit.noGoto Q) a' w') Q) a w) : (Code.scope c).wp P Q a w := by
  refine wp_scope_jumps l (fun a' w' => rest.wp P (Exit.noGoto Q) a' w') (fun _ _ => 0) hf h ?_
  intro a' w' hr b k cs
  obtain ⟨e, a1, w1, hq, harr⟩ := hr b k cs
  refine ⟨e, a1, w1, ?_, harr⟩
  cases e with
  | goto l' => exact hq.elim
  | normal => exact hq
  | exit id => exact hq
  | ret => exact hq
  | panic ch => exact hq
  | outgrown => exact hq

/-- a map of the call's own with integer keys: a new key is put, a key is asked for -/
theorem alloc_set (w : World) (o o' : Obj) : { w.alloc o with heap := (w.alloc o).heap.setIfInBounds w.heap.size o' } = w.alloc o' := by
  simp only [World.alloc]
  congr 1
  apply Array.ext'
  simp [Array.setIfInBounds, Array.toList_push]
theorem run_mapPut_new {P : Program} (w : World) (mty kt et : TypeId) (k : IntKind) (es : Array MapEntry) (clock : Nat) (a : Int) (val : Value)
    (hm : P.underlying mty = some (.map kt et)) (hk : P.underlying kt = some (.int k)) (hf : Instr.findNow (.int k) (.int k a) es.toList 0 = some none) :
    (Instr.mapUpdate mty (.map (some w.heap.size)) (.int k a) val).run P (w.alloc (.map es clock)) = .ok () (w.alloc (.map (es.push { key := .int k a, val := val, born := clock }) (clock + 1))) := by
  have hb : (w.alloc (.map es clock)).heap[w.heap.size]? = some (.map es clock) := (MapKept.heap_alloc w _).1
  have hc : (Instr.checkKey false 10000 kt (.int k a)).run P (w.alloc (.map es clock)) = .ok () (w.alloc (.map es clock)) := MapKept.run_checkKey (k := .int k a) hk (by simp [MapKept.IsKey]) false 9999
  simp [Instr.mapUpdate, run_underlying hm, MapKept.run_getObj_map hb, hc, MapKept.run_findKey hk hf, MapKept.run_setObj_map _ hb, Result.andThen]
  exact alloc_set w _ _
theorem run_mapAsk {P : Program} (w : World) (mty kt et : TypeId) (k : IntKind) (r : Nat) (es : Array MapEntry) (clock : Nat) (a : Int) (x : Option (Nat × Value)) (z : Value)
    (hm : P.underlying mty = some (.map kt et)) (hk : P.underlying kt = some (.int k)) (hb : w.heap[r]? = some (.map es clock)) (hf : Instr.findNow (.int k) (.int k a) es.toList 0 = some x)
    (hz : (zeroValue et).run P w = .ok z w) :
    (Instr.lookup mty (.map (some r)) (.int k a) true).run P w = .ok (.tuple #[(x.map (·.2)).getD z, .bool x.isSome]) w ∧
    (Instr.lookup mty (.map (some r)) (.int k a) false).run P w = .ok ((x.map (·.2)).getD z) w := by
  have hc : ∀ e, (Instr.checkKey e 10000 kt (.int k a)).run P w = .ok () w := fun e => MapKept.run_checkKey (k := .int k a) hk (by simp [MapKept.IsKey]) e 9999
  cases x <;> exact ⟨by simp [Instr.lookup, run_underlying hm, MapKept.run_getObj_map hb, hc, MapKept.run_findKey hk hf, hz, Result.andThen], by simp [Instr.lookup, run_underlying hm, MapKept.run_getObj_map hb, hc, MapKept.run_findKey hk hf, hz, Result.andThen]⟩

/-- what a slice's places hold: 'vs' lies from 'a' on -/
def SlOf (w : World) (a : Option Addr) (vs : List Value) : Prop := vs = [] ∨ ∃ b o, a = some ⟨b, o, none⟩ ∧ b < w.heap.size ∧ ∀ i (h : i < vs.length), w.cell? ⟨b, o + i, none⟩ = some vs[i]
theorem SlOf.below {w w' : World} {a : Option Addr} {vs : List Value} (h : SlOf w a vs) (hb : Below w.heap.size w w') : SlOf w' a vs := by
  rcases h with h | ⟨b, o, ha, hlt, hc⟩
  · exact .inl h
  · exact .inr ⟨b, o, ha, Nat.lt_of_lt_of_le hlt hb.size, fun i hi => ((hb.cell (p := ⟨b, o + i, none⟩) hlt)).trans (hc i hi)⟩
theorem SlOf.alloc {w : World} {a : Option Addr} {vs : List Value} (h : SlOf w a vs) (o : Obj) : SlOf (w.alloc o) a vs := h.below ((Below.refl _ _).alloc (Nat.le_refl _) _)
theorem SlOf.drew {w : World} {a : Option Addr} {vs : List Value} (h : SlOf w a vs) : SlOf w.drew a vs := h.below (Below.refl _ _).drew
theorem SlOf.drewN {w : World} {a : Option Addr} {vs : List Value} (h : SlOf w a vs) (n : Nat) : SlOf (w.drewN n) a vs := h.below (Below.drewN' (Below.refl _ _) _)

theorem SlOf.new (w : World) (vs : List Value) (t : TypeId) (z : Nat × Nat) : SlOf (w.alloc (.cells vs.toArray t z)) (some ⟨w.heap.size, 0, none⟩) vs := by
  refine .inr ⟨w.heap.size, 0, rfl, by simp, fun i hi => ?_⟩
  have hb : (w.alloc (.cells vs.toArray t z)).heap[w.heap.size]? = some (.cells vs.toArray t z) := (MapKept.heap_alloc w _).1
  simp only [World.cell?, hb]
  simp [hi]

theorem hold_cell {w w2 : World} {p : Addr} {v : Value} (q : w.cell? p = some v) (h : Below w.heap.size w w2) (hp : p.block < w.heap.size) : w2.cell? p = some v := (h.cell hp).trans q

end Go.Proofs.Ytafenndokmccoaa
