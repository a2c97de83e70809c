/- A range over a function whose body leaves at the first element: the statement, out of the iterator's contract ('IterOnce') and what holds ahead of it. What is told of the element (E) is handed to the body. -/
import Derived.Test.YtlohfcinffaagaaDoorKit
import Derived.RangeFuncNested
import Derived.RangeFuncFrom
import Derived.RangeFuncLeaves
namespace Go.Proofs.YtlohfcinffaagaaDoor
open Go.RowKit
set_option linter.unusedVariables false
set_option linter.unusedSimpArgs false

/-- what an iterator promises whose rounds all leave: it tells one element of which E holds, or none (S0) -/
def IterOnce {α : Type} (n : Nat) (P : Program) (g : Nat) (lb : Array Value) (encs : α → Array Value) (E : α → World → Prop) (S0 : Prop) (w : World) : Prop :=
  ∀ (l : Nat) (J : World → Prop) (Jx : α → World → Prop) (W : World), Below w.heap.size w W → (∀ A B, J A → Below A.heap.size A B → J B) →
    (∀ x W1, J W1 → E x W1 → YieldAt Fence.wide (n - 1) P l (encs x) W1 fun e W' => e = .returned (.bool false) ∧ Jx x W') →
    J W →
    CallsIn Fence.wide n P g (#[.func (.yield l) #[] #[]] ++ lb) W fun e W' => (∃ v, e = .returned v) ∧ ((S0 ∧ J W') ∨ (∃ x, Jx x W'))

def oncePost {α : Type} (Ix : Code → α → World → Prop) (x : α) (W : World) : Exit → Act → World → Prop
  | .ret, _, W3 => KeepsOthers W W3 ∧ Ix .ret x W3
  | .exit id, _, W3 => KeepsOthers W W3 ∧ Ix (.exit id) x W3
  | .goto t, _, W3 => KeepsOthers W W3 ∧ Ix (.goto t) x W3
  | _, _, _ => False

theorem wpIn_range_once {α : Type} {n : Nat} {P : Program} {g : Operand} {ps : Array Tmp} {assign body : Code} {Q : Exit → Act → World → Prop} {a : Act} {w : World}
    (h1 : 1 ≤ n) {gf : Nat} {lb : Array Value} (hg : a.eval g = .func (.func gf) #[] lb) (eg : ∀ args w, (callFunc gf args).run P w = .ok (.enter gf args) w)
    {encs : α → Array Value} {E : α → World → Prop} {S0 : Prop} (hseq : IterOnce (n - 1) P gf lb encs E S0 w)
    (hps : ∀ x, (encs x).size = ps.size)
    (I : World → Prop) (Ix : Code → α → World → Prop)
    (hIb : ∀ A B, I A → Below A.heap.size A B → I B)
    (hIp : ∀ (W : World) (l : Nat) (o o' : Obj), I W → w.heap.size ≤ l → W.heap[l]? = some o → o.isCells = false → I (W.putObj l o'))
    (hEp : ∀ (x : α) (W : World) (l : Nat) (o o' : Obj), E x W → W.heap[l]? = some o → o.isCells = false → E x (W.putObj l o'))
    (hIxp : ∀ (c : Code) (x : α) (W : World) (l : Nat) (o o' : Obj), Ix c x W → w.heap.size ≤ l → W.heap[l]? = some o → o.isCells = false → Ix c x (W.putObj l o'))
    (h0 : I w) (F : Array Value → α → World → Array Value) (wa : α → World → World) (hwa : ∀ x W, Below W.heap.size W (wa x W)) (A : α → World → World → Prop) (hA : ∀ x W, A x W (wa x W))
    (hAp : ∀ (x : α) (V W : World) (l : Nat) (o o' : Obj), A x V W → W.heap[l]? = some o → o.isCells = false → A x V (W.putObj l o'))
    (hEb : ∀ x B C, E x B → Below B.heap.size B C → E x C)
    (hassign : ∀ (l : Nat) (x : α) (W : World) (K : Act → World → Prop), K { tmps := F a.tmps x W, defers := [] } (wa x W) →
      assign.wpIn (Fence.wide.inRound l) (n - 1 - 1) P (Exit.then K (fun _ _ _ => False)) { tmps := (ps.zip (encs x)).foldl (fun t (p, v) => t.setIfInBounds p v) a.tmps, defers := [] } W)
    (hbody : ∀ (l : Nat) (x : α) (V W : World), I W → E x W → A x V W → body.wpIn (Fence.wide.inRound l) (n - 1 - 1) P (oncePost Ix x W) { tmps := F a.tmps x V, defers := [] } W)
    (hdone : ∀ (D : Nat) (W : World), w.heap.size ≤ D → S0 → I W → W.heap[D]? = some (.deferred (some [])) → Q .normal { a with defers := { target := .collected D, args := #[] } :: a.defers } W)
    (hstop : ∀ (D : Nat) (c : Code) (x : α) (W : World), w.heap.size ≤ D → Ix c x W → W.heap[D]? = some (.deferred (some [])) → c.wpIn Fence.wide n P Q { a with defers := { target := .collected D, args := #[] } :: a.defers } W) :
    (Code.rangeFunc g ps assign body).wpIn Fence.wide n P Q a w := by
  refine wpIn_rangeFunc (fun fn _ => ?_)
  let rec' : LoopState → Option Code → Loop := fun st pe => { state := st, pending := pe, fn, tmps := a.tmps, params := ps, assign, body, defers := w.heap.size }
  obtain ⟨L, hL⟩ : ∃ L, L = w.heap.size + 1 := ⟨_, rfl⟩
  obtain ⟨W1, hW1⟩ : ∃ W1, (w.alloc (.deferred (some []))).alloc (.loop (rec' .ready none)) = W1 := ⟨_, rfl⟩
  have hb1 : Below w.heap.size w W1 := by rw [← hW1]; exact ((Below.refl _ w).alloc (Nat.le_refl _) _).alloc (by simp) _
  have hl1 : W1.heap[L]? = some (.loop (rec' .ready none)) := by
    rw [← hW1, hL]
    have := World.alloc_heap_new (w.alloc (.deferred (some []))) (.loop (rec' .ready none))
    rwa [World.size_alloc] at this
  have hd1 : W1.heap[w.heap.size]? = some (.deferred (some [])) := by
    rw [← hW1]
    exact (Below.heap_alloc _ _ _ (by simp)).trans (World.alloc_heap_new w _)
  have hi1 : I W1 := hIb _ _ h0 hb1
  have hLw : w.heap.size ≤ L := by omega
  have hLne : L ≠ w.heap.size := by omega
  refine ⟨L, [{ target := .collected w.heap.size, args := #[] }], W1, { target := .fn (.func gf) lb, args := #[.func (.yield L) #[] #[]] }, W1, gf, #[.func (.yield L) #[] #[]] ++ lb, W1, ?_, ?_, fun _ _ => trivial, ?_, fun _ => h1, ?_⟩
  · rw [← hW1, hL]; exact run_enterLoop_outer _ _ _ _ _
  · simp only [resolve, hg]
    simp [go_sem]
  · simp [invoke, go_sem, eg]
  refine (hseq L (fun W => I W ∧ W.heap[L]? = some (.loop (rec' .ready none)) ∧ W.heap[w.heap.size]? = some (.deferred (some [])))
    (fun x W => ∃ c, Ix c x W ∧ W.heap[L]? = some (.loop (rec' .done (some c))) ∧ W.heap[w.heap.size]? = some (.deferred (some [])))
    W1 hb1 (fun A B hs hb => ⟨hIb A B hs.1 hb, (hb.block _ (Array.getElem?_eq_some_iff.1 hs.2.1).1).trans hs.2.1, (hb.block _ (Array.getElem?_eq_some_iff.1 hs.2.2).1).trans hs.2.2⟩) ?_ ⟨hi1, hl1, hd1⟩).mono ?_
  · rintro x V ⟨hi0, hl0, hd0⟩ hE0
    have hbV := hwa x V
    obtain ⟨W, hWd⟩ : ∃ W, wa x V = W := ⟨_, rfl⟩
    have hl : W.heap[L]? = some (.loop (rec' .ready none)) := by rw [← hWd]; exact (hbV.block _ (Array.getElem?_eq_some_iff.1 hl0).1).trans hl0
    have hd : W.heap[w.heap.size]? = some (.deferred (some [])) := by rw [← hWd]; exact (hbV.block _ (Array.getElem?_eq_some_iff.1 hd0).1).trans hd0
    have hi : I W := by rw [← hWd]; exact hIb _ _ hi0 hbV
    have hE : E x W := by rw [← hWd]; exact hEb _ _ _ hE0 hbV
    have hAx : A x V W := by rw [← hWd]; exact hA x V
    have hlt : L < W.heap.size := (Array.getElem?_eq_some_iff.1 hl).1
    refine ⟨fn, _, assign, body, run_yield (P := P) (args := encs x) hl0 (hps x), roundIn_of_wpIn trivial (hassign L x V _ ?_)⟩
    rw [hWd]
    refine ⟨_, run_beginRound hl rfl, ?_⟩
    have hl2 : (W.putObj L (.loop { rec' .ready none with state := .busy })).heap[L]? = some (.loop { rec' .ready none with state := .busy }) := World.putObj_heap_same hlt
    have hd2 : (W.putObj L (.loop { rec' .ready none with state := .busy })).heap[w.heap.size]? = some (.deferred (some [])) := (World.putObj_heap_other (Ne.symm hLne)).trans hd
    refine wpIn_mono (hbody L x V _ (hIp _ _ _ _ hi hLw hl rfl) (hEp _ _ _ _ _ hE hl rfl) (hAp _ _ _ _ _ _ hAx hl rfl)) ?_
    intro e a3 W3 hp
    have left : ∀ (c : Code), KeepsOthers (W.putObj L (.loop { rec' .ready none with state := .busy })) W3 → Ix c x W3 →
        ∃ v W4, (Instr.endRound L (some c)).run P W3 = .ok (.bool v) W4 ∧ (Ending.returned (.bool v) = .returned (.bool false) ∧ ∃ c, Ix c x W4 ∧ W4.heap[L]? = some (.loop (rec' .done (some c))) ∧ W4.heap[w.heap.size]? = some (.deferred (some []))) := fun c hk hi3 => by
      have hl3 := hk.same _ _ hl2 rfl
      have hr := run_endRound (P := P) (some c) hl3
      exact ⟨false, _, hr, rfl, c, hIxp _ _ _ _ _ _ hi3 hLw hl3 rfl, World.putObj_heap_same (Array.getElem?_eq_some_iff.1 hl3).1, (World.putObj_heap_other (Ne.symm hLne)).trans (hk.same _ _ hd2 rfl)⟩
    cases e with
    | normal => exact hp.elim
    | ret => obtain ⟨v, W4, hr, hq⟩ := left .ret hp.1 hp.2; exact ⟨_, W4, hr, hq⟩
    | exit id => obtain ⟨v, W4, hr, hq⟩ := left (.exit id) hp.1 hp.2; exact ⟨_, W4, hr, hq⟩
    | goto t => obtain ⟨v, W4, hr, hq⟩ := left (.goto t) hp.1 hp.2; exact ⟨_, W4, hr, hq⟩
    | panic ch => exact hp.elim
    | outgrown => exact hp.elim
  · rintro e W2 ⟨⟨v, rfl⟩, (⟨hS, hi, hl, hd⟩ | ⟨x, c, hi, hl, hd⟩)⟩
    · exact ⟨none, _, run_endLoop (P := P) hl (by simp [rec']), hdone _ _ (Nat.le_refl _) hS (hIp _ _ _ _ hi hLw hl rfl) ((World.putObj_heap_other (Ne.symm hLne)).trans hd)⟩
    · exact ⟨some c, _, run_endLoop (P := P) hl (by simp [rec']), hstop _ c x _ (Nat.le_refl _) (hIxp _ _ _ _ _ _ hi hLw hl rfl) ((World.putObj_heap_other (Ne.symm hLne)).trans hd)⟩

end Go.Proofs.YtlohfcinffaagaaDoor
