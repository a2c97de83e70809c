/- The layer 'shape': the table of a text. -/
import Derived.Test.YtcdfhceohjhogaaDoorSplit
import Derived.Test.YtcdfhceohjhogaaDoorShapeAll
import Derived.Maps.AppendAt
import Derived.RangeFuncLeaves
namespace Go.Proofs.YtcdfhceohjhogaaDoor
open Go.RowKit Go.Shelf
set_option linter.unusedVariables false
set_option linter.unusedSimpArgs false
attribute [local go_sem] Oper.semAt_some

/-- a piece as a shape; which pieces may be; the table read, and what goes wrong -/
def unDash (x : List UInt8) : ByteArray := if x = [45] then ⟨#[]⟩ else ⟨x.toArray⟩
def PiecesOk (l : List (List UInt8)) : Prop := (∀ x ∈ l, x ≠ []) ∧ l.length ≤ 16
instance (l : List (List UInt8)) : Decidable (PiecesOk l) := inferInstanceAs (Decidable (_ ∧ _))
def piecesOf (s : ByteArray) : List (List UInt8) := splitSp s.data.toList
def readB (s : ByteArray) : Bool := decide (PiecesOk (piecesOf s)) && tableB ((piecesOf s).map unDash)
def readL (s : ByteArray) : List ByteArray := if readB s = true then (piecesOf s).map unDash else []
def readE (s : ByteArray) : Int := if readB s = true then 0 else 2

theorem PiecesOk.prefix {l r : List (List UInt8)} (h : PiecesOk r) (hp : l <+: r) : PiecesOk l :=
  ⟨fun x hx => h.1 x (hp.subset hx), Nat.le_trans hp.length_le h.2⟩

theorem ownsRow_mono {W : World} {b b' : Nat} {e : TypeId} {size : Nat} {v : Value} {k : Nat} {xs : List Value} (h : W.ownsRow b e size v k xs) (hb : b' ≤ b) : W.ownsRow b' e size v k xs := by
  refine ⟨h.1, ?_⟩
  rcases h.2 with h' | ⟨g, cap, cur, hv, hg, hr⟩
  · exact .inl h'
  · exact .inr ⟨g, cap, cur, hv, Nat.le_trans hb hg, hr⟩

/-- the caller's invariant: its three boxes, the row that it owns, the world below -/
def ReadI (w : World) (pre : List (List UInt8)) (W : World) : Prop :=
  Below w.heap.size w W ∧ w.heap.size + 6 ≤ W.heap.size ∧ Boxed W w.heap.size 44 (.slice none 0 0) ∧ Boxed W (w.heap.size + 1) 26 (.int .i64 0) ∧
  (∃ v, Boxed W (w.heap.size + 2) 44 v ∧ W.ownsRow (w.heap.size + 6) 45 1 v pre.length ((pre.map unDash).map Value.string)) ∧ PiecesOk pre
def ReadX (w : World) (c : Code) (pre : List (List UInt8)) (W : World) : Prop :=
  c = .ret ∧ Below w.heap.size w W ∧ w.heap.size + 6 ≤ W.heap.size ∧ Boxed W w.heap.size 44 (.slice none 0 0) ∧ Boxed W (w.heap.size + 1) 26 (.int .i64 2) ∧ ¬ PiecesOk pre

theorem ReadI.grown {w : World} {pre : List (List UInt8)} {A B : World} {row : Option Nat} (h : ReadI w pre A) (hg : A.grownBy B row)
    (hr : ∀ r, row = some r → r = w.heap.size + 3 ∨ (w.heap.size + 6 ≤ r ∧ ∃ o : Obj, A.heap[r]? = some o ∧ o.isCells = false)) : ReadI w pre B := by
  obtain ⟨h1, h2, h3, h4, ⟨v, h5, h6⟩, h7⟩ := h
  have hne : ∀ k, k < w.heap.size + 3 → some k ≠ row := fun k hk e => by have := hr k e.symm; omega
  refine ⟨h1.grown hg (by omega) (fun k e => by have := hr k e; omega), Nat.le_trans h2 hg.size, h3.kept hg (hne _ (by omega)), h4.kept hg (hne _ (by omega)), ⟨v, h5.kept hg (hne _ (by omega)), h6.kept hg ?_⟩, h7⟩
  rcases h6.2 with ⟨rfl, _⟩ | ⟨g, cap, cur, rfl, hgb, hgc, _⟩
  · exact .inl rfl
  · refine .inr fun e => ?_
    have e' : row = some g := by rw [← e]; rfl
    rcases hr g e' with h | ⟨_, o, ho, hc⟩
    · omega
    · rw [hgc] at ho; cases ho; cases hc
theorem ReadX.grown {w : World} {c : Code} {pre : List (List UInt8)} {A B : World} {row : Option Nat} (h : ReadX w c pre A) (hg : A.grownBy B row)
    (hr : ∀ r, row = some r → w.heap.size + 3 ≤ r) : ReadX w c pre B := by
  obtain ⟨h0, h1, h2, h3, h4, h7⟩ := h
  have hne : ∀ k, k < w.heap.size + 3 → some k ≠ row := fun k hk e => by have := hr k e.symm; omega
  exact ⟨h0, h1.grown hg (by omega) (fun k e => by have := hr k e; omega), Nat.le_trans h2 hg.size, h3.kept hg (hne _ (by omega)), h4.kept hg (hne _ (by omega)), h7⟩

/-- behind 'out = append(out, x)': the box, the row, what is kept -/
theorem boxed_appended {W w1 : World} {n B : Nat} {t e : TypeId} {size : Nat} {v v' : Value} {k m : Nat} {xs ys : List Value} {tmp : Obj}
    (hv : Boxed W B t v) (hrow : W.ownsRow n e size v k xs) (hn : n ≤ W.heap.size) (hB : B < n)
    (hown' : w1.ownsRow n e size v' m ys) (hgrow : (W.alloc tmp).grownBy w1 v.ownBlock) :
    Boxed w1 B t v ∧ Boxed (w1.setCell ⟨B, 0, none⟩ v') B t v' ∧ (w1.setCell ⟨B, 0, none⟩ v').ownsRow n e size v' m ys ∧ KeepsOthers W (w1.setCell ⟨B, 0, none⟩ v') ∧
    (∀ j, j < n → j ≠ B → (w1.setCell ⟨B, 0, none⟩ v').heap[j]? = W.heap[j]?) ∧ (∀ a b, b ≤ B → Below b a W → Below b a (w1.setCell ⟨B, 0, none⟩ v')) := by
  have hlo : ∀ j, v.ownBlock = some j → n ≤ j := fun j ej => (hrow.lt j ej).1
  have hne : ∀ j, j < n → some j ≠ v.ownBlock := fun j hj e => by have := hlo j e.symm; omega
  have hv1 : Boxed w1 B t v := (hv.alloc tmp).kept hgrow (hne B hB)
  refine ⟨hv1, hv1.set v', hown'.kept (grownBy_setCell' w1 B v') (.inr fun e' => ?_), ?_, ?_, ?_⟩
  · have := (hown'.lt B e').1; omega
  · refine ((KeepsOthers.alloc W tmp).trans (KeepsOthers.of_grownBy hgrow fun j o ej hj => ?_)).trans (KeepsOthers.setCell _ _ _)
    rcases (hrow.alloc tmp).2 with ⟨rfl, _⟩ | ⟨g, cap, cur, rfl, _, hgb, _⟩
    · simp [Value.ownBlock] at ej
    · obtain rfl : g = j := by simpa [Value.ownBlock] using ej
      rw [hgb] at hj; cases hj; rfl
  · intro j hj hjB
    have e1 := (grownBy_setCell' w1 B v').block j (by have := hgrow.size; simp at this; omega) (by simpa using hjB)
    have e2 := hgrow.block j (by simp; omega) (hne j hj)
    exact e1.trans (e2.trans (Below.heap_alloc W tmp j (by omega)))
  · intro a b hb h
    exact ((h.alloc (by have := h.size; omega) tmp).grown hgrow (by have := h.size; simp; omega) fun j ej => by have := hlo j ej; omega).setCell (p := ⟨B, 0, none⟩) hb v'

theorem ownsRow_val {W : World} {base : Nat} {e : TypeId} {size : Nat} {v : Value} {k : Nat} {xs : List Value} (h : W.ownsRow base e size v k xs) : ∃ a c, v = .slice a k c := by
  rcases h.2 with ⟨rfl, rfl⟩ | ⟨g, cap, _, rfl, _⟩
  · exact ⟨none, 0, rfl⟩
  · exact ⟨_, _, rfl⟩
theorem splitK_t {B : Nat} {X Y Z : World} (h : SplitK B X Y) (k : SplitK B Y Z) : SplitK B X Z := ⟨Nat.le_trans h.1 k.1, fun j hj => (k.2 j hj).trans (h.2 j hj)⟩
theorem infoShape : (Tryd.prog.info? 45).map (fun i => (i.zero, i.size, i.bytes)) = some (some (.string ByteArray.empty), 1, 16) := by kernel_rfl

theorem slOf_owns {W : World} {base : Nat} {e : TypeId} {a : Option Addr} {c k : Nat} {xs : List Value} (h : W.ownsRow base e 1 (.slice a k c) k xs) : SlOf W a xs := by
  rcases h.2 with ⟨_, h0⟩ | ⟨g, cap, cur, hv, hgb, hgc, hr⟩
  · exact .inl (List.eq_nil_of_length_eq_zero (by have := h.1; omega))
  · have hcells := h.cells (g := g) (by rw [hv]; rfl)
    obtain ⟨rfl, rfl⟩ : a = some ⟨g, 0, none⟩ ∧ c = cap := by simpa using hv
    refine .inr ⟨g, 0, rfl, (Array.getElem?_eq_some_iff.1 hgc).1, fun i hi => ?_⟩
    have := hcells i _ (List.getElem?_eq_getElem hi)
    have ea : (⟨g, 0, none⟩ : Addr).add i = ⟨g, 0 + i, none⟩ := by unfold Addr.add; split <;> simp_all
    rw [ea] at this
    exact this
theorem SlOf.putObj {W : World} {a : Option Addr} {vs : List Value} (h : SlOf W a vs) {D : Nat} {o : Obj} (o' : Obj) (hD : W.heap[D]? = some o) (ho : o.isCells = false) : SlOf (W.putObj D o') a vs := by
  rcases h with h | ⟨b, p, ha, hlt, hc⟩
  · exact .inl h
  · exact .inr ⟨b, p, ha, by simpa using hlt, fun i hi => cell_kept (hc i hi) (grownBy_putObj' W D o') (fun r e => by cases e; exact ⟨o, hD, ho⟩)⟩
theorem ownsRow_set {W : World} {base : Nat} {e : TypeId} {size : Nat} {v : Value} {k : Nat} {xs : List Value} (h : W.ownsRow base e size v k xs) (b : Nat) (hb : b < base) (x : Value) : (W.setCell ⟨b, 0, none⟩ x).ownsRow base e size v k xs :=
  h.kept (grownBy_setCell' W b x) (.inr fun e' => by have := (h.lt b e').1; omega)

/-- the return: out of the two boxes; the block of the rounds' deferred calls is shut -/
theorem read_ends {w W8 : World} {s : ByteArray} {tmps : Array Value} {a : Option Addr} {c D : Nat} (hp : tmps.getD 2 undef = .pointer (some ⟨w.heap.size, 0, none⟩)) (hq : tmps.getD 3 undef = .pointer (some ⟨w.heap.size + 1, 0, none⟩))
    (r0 : Boxed W8 w.heap.size 44 (.slice a (readL s).length c)) (r1 : Boxed W8 (w.heap.size + 1) 26 (.int .i64 (readE s))) (hb : Below w.heap.size w W8) (hD : w.heap.size + 6 ≤ D)
    (hK : W8.heap[D]? = some (.deferred (some []))) (hs : SlOf W8 a (strV (readL s))) :
    LeavesInM Fence.wide 5 Tryd.prog Tryd.f42 tmps (fun e w' => ∃ a c, e = .returned (.tuple #[.slice a (readL s).length c, .int .i64 (readE s)]) ∧ SlOf w' a (strV (readL s)) ∧ Below w.heap.size w w') [{ target := .collected D, args := #[] }] .returning W8 := by
  rw [Array.getD_eq_getD_getElem?] at hp hq
  have c0 := (r0.kept (grownBy_putObj' W8 D (.deferred none)) (by simp; omega)).cell
  have c1 := (r1.kept (grownBy_putObj' W8 D (.deferred none)) (by simp; omega)).cell
  refine ⟨by simp, .inl ⟨_, _, rfl, run_takeDeferred hK, ?_⟩⟩
  have hs' := hs.putObj (.deferred none) hK rfl
  have hb' : Below w.heap.size w (W8.putObj D (.deferred none)) := hb.trans (belowK_b (w := w) (Nat.le_refl _) W8 D _ _ (by omega) hK rfl rfl)
  obtain ⟨W9, h9⟩ : ∃ W9, W8.putObj D (.deferred none) = W9 := ⟨_, rfl⟩
  rw [h9] at c0 c1 hs' hb' ⊢
  exact ⟨_, (by simp [results, Tryd.results42, hp, hq, go_sem, c0, c1] : _ = Result.ok (.tuple #[.slice a (readL s).length c, .int .i64 (readE s)]) W9), a, c, rfl, hs', hb'⟩

set_option maxRecDepth 100000 in
set_option maxHeartbeats 3200000 in
theorem read_calls (s : ByteArray) (hs : s.size ≤ maxLen) (w : World) :
    Calls Tryd.prog 42 #[.string s] w fun e w' => ∃ a c, e = .returned (.tuple #[.slice a (readL s).length c, .int .i64 (readE s)]) ∧ SlOf w' a (strV (readL s)) ∧ Below w.heap.size w w' := by
  obtain ⟨i0, hi, hi0, hi1, hi2⟩ := info_parts infoShape
  refine (callsIn_wide (n := 5)).1 ?_
  refine callsIn_of_wp_marks Tryd.func42 rfl trivial ?_ rfl
  simp only [Tryd.ntmps42, List.size_toArray, List.length_cons, List.length_nil, Nat.reduceAdd, Nat.reduceSub, Array.replicate_succ, Array.replicate_zero, List.push_toArray, List.append_toArray, List.nil_append, List.cons_append]
  gi_wp2_with fail
  refine ⟨trivial, (callsIn_wide.2 (splitSeq_calls s _)).mono ?_⟩
  rintro e w1 ⟨rfl, rfl⟩
  gi_wp2
  obtain ⟨w5, hw5⟩ : ∃ w5, ((((w.alloc (.cells #[.slice none 0 0] 44)).alloc (.cells #[.int .i64 0] 26)).alloc (.cells #[.slice none 0 0] 44)).alloc (.cells #[.string s] 9)).alloc (.cells #[.string ⟨#[32]⟩] 9) = w5 := ⟨_, rfl⟩
  obtain ⟨w6, hw6⟩ : ∃ w6, w5.alloc (.cells #[.int .i64 0] 3) = w6 := ⟨_, rfl⟩
  have hz6 : w6.heap.size = w.heap.size + 6 := by rw [← hw6, ← hw5]; simp
  have hb6 : Below w.heap.size w w6 := by rw [← hw6, ← hw5]; (repeat (first | exact Below.refl _ _ | (with_reducible assumption) | refine Below.drew ?_ | refine Below.drewN' ?_ _ | refine Below.alloc ?_ (by first | omega | (simp; done) | (simp; omega)) _ | refine Below.setCell ?_ (by first | omega | (simp; done) | (simp; omega)) _ | refine Below.then ?_ hb9 (by first | omega | (simp; done) | (simp; omega)) | refine Below.then ?_ hb8 (by first | omega | (simp; done) | (simp; omega)) | refine Below.then ?_ hb7 (by first | omega | (simp; done) | (simp; omega)) | refine Below.then ?_ hb6 (by first | omega | (simp; done) | (simp; omega)) | refine Below.then ?_ hb5 (by first | omega | (simp; done) | (simp; omega)) | refine Below.then ?_ hb4 (by first | omega | (simp; done) | (simp; omega)) | refine Below.then ?_ hb3 (by first | omega | (simp; done) | (simp; omega)) | refine Below.then ?_ hb2 (by first | omega | (simp; done) | (simp; omega)) | refine Below.then ?_ hb1 (by first | omega | (simp; done) | (simp; omega))))
  have bx0 : Boxed w6 (w.heap.size + 0) 44 (.slice none 0 0) := by
    rw [← hw6, ← hw5]
    have := Boxed.new w 44 (.slice none 0 0)
    exact (((((this.alloc _).alloc _).alloc _).alloc _).alloc _)
  have bx1 : Boxed w6 (w.heap.size + 1) 26 (.int .i64 0) := by
    rw [← hw6, ← hw5]
    have := Boxed.new (w.alloc (.cells #[.slice none 0 0] 44)) 26 (.int .i64 0)
    simp only [World.size_alloc] at this
    exact ((((this.alloc _).alloc _).alloc _).alloc _)
  have bx2 : Boxed w6 (w.heap.size + 2) 44 (.slice none 0 0) := by
    rw [← hw6, ← hw5]
    have := Boxed.new ((w.alloc (.cells #[.slice none 0 0] 44)).alloc (.cells #[.int .i64 0] 26)) 44 (.slice none 0 0)
    simp only [World.size_alloc] at this
    exact (((this.alloc _).alloc _).alloc _)
  have bx3 : Boxed w6 (w.heap.size + 3) 9 (.string s) := by
    rw [← hw6, ← hw5]
    have := Boxed.new (((w.alloc (.cells #[.slice none 0 0] 44)).alloc (.cells #[.int .i64 0] 26)).alloc (.cells #[.slice none 0 0] 44)) 9 (.string s)
    simp only [World.size_alloc] at this
    exact ((this.alloc _).alloc _)
  have bx4 : Boxed w6 (w.heap.size + 4) 9 (.string ⟨#[32]⟩) := by
    rw [← hw6, ← hw5]
    have := Boxed.new ((((w.alloc (.cells #[.slice none 0 0] 44)).alloc (.cells #[.int .i64 0] 26)).alloc (.cells #[.slice none 0 0] 44)).alloc (.cells #[.string s] 9)) 9 (.string ⟨#[32]⟩)
    simp only [World.size_alloc] at this
    exact (this.alloc _)
  have bx5 : Boxed w6 (w.heap.size + 5) 3 (.int .i64 0) := by
    rw [← hw6, ← hw5]
    have := Boxed.new (((((w.alloc (.cells #[.slice none 0 0] 44)).alloc (.cells #[.int .i64 0] 26)).alloc (.cells #[.slice none 0 0] 44)).alloc (.cells #[.string s] 9)).alloc (.cells #[.string ⟨#[32]⟩] 9)) 3 (.int .i64 0)
    simp only [World.size_alloc] at this
    exact this
  have hc3 : w6.cell? ⟨w.heap.size + 3, 0, none⟩ = some (.string ⟨s.data.toList.toArray⟩) := bx3.cell
  have hst := split_stops 4 (by omega) s.data.toList (by simpa using hs) (w.heap.size + 3) w6 (by omega) hc3 bx3.frozen bx4.cell bx5.cell
  rw [hw5, hw6]
  simp only [Nat.add_assoc, Nat.reduceAdd]
  clear hw6 hw5 hc3 bx3 bx4 bx5
  refine wpIn_range_own (by omega) (gf := 81) (lb := #[.pointer (some ⟨w.heap.size + 4, 0, none⟩), .pointer (some ⟨w.heap.size + 3, 0, none⟩), .pointer (some ⟨w.heap.size + 5, 0, none⟩)]) rfl (enters_of Tryd.func81 (by kernel_rfl) rfl)
    hst (fun A B ⟨v, hv⟩ k o hk hc hw => by rw [hv]; exact (KeepsOthers.setCell A _ v).same k o hk hc) splitK_t ?hKb (fun _ => rfl)
    (ReadI w) (ReadX w) ?hI ?hIx ?hIG ?hIxG ⟨hb6, by omega, bx0, bx1, ⟨_, bx2, World.ownsRow_nil _ _ _ _⟩, ⟨by simp, by simp⟩⟩
    (fun x => { tmps := #[.string s, undef, .pointer (some ⟨w.heap.size, 0, none⟩), .pointer (some ⟨w.heap.size + 1, 0, none⟩), .pointer (some ⟨w.heap.size + 2, 0, none⟩), .string ⟨x.toArray⟩, undef, .string s, .func (.func 81) #[] #[.pointer (some ⟨w.heap.size + 4, 0, none⟩), .pointer (some ⟨w.heap.size + 3, 0, none⟩), .pointer (some ⟨w.heap.size + 5, 0, none⟩)], .string ⟨x.toArray⟩, undef, undef, undef, undef, undef, undef, undef, undef, undef, undef, undef, undef, undef, undef, undef, undef, undef, undef, undef], defers := [] }) ?assign ?body ?done ?stop
  case hKb =>
    intro W l o o' hl hlo hc hw
    exact ⟨by simp, fun k hk => World.putObj_heap_other (by omega)⟩
  case hI =>
    intro pre A B row h hg hr
    exact ReadI.grown h hg (fun r e => .inr ⟨by have := (hr r e).1; omega, (hr r e).2⟩)
  case hIx =>
    intro c pre A B row h hg hr
    exact ReadX.grown h hg (fun r e => by have := (hr r e).1; omega)
  case hIG =>
    rintro pre A B h ⟨v, rfl⟩
    exact ReadI.grown h (grownBy_setCell' A _ v) (fun r e => by cases e; exact .inl rfl)
  case hIxG =>
    rintro c pre A B h ⟨v, rfl⟩
    exact ReadX.grown h (grownBy_setCell' A _ v) (fun r e => by cases e; omega)
  case assign =>
    intro l x W K hK
    gi_wp2
    have e : (#[9] : Array Tmp).zip (pieceEnc x) = #[(9, .string ⟨x.toArray⟩)] := by unfold pieceEnc; first | (simp; done) | kernel_rfl
    rw [e]
    exact hK
  case body =>
    rintro l pre x W ⟨h1, h2, h3, h4, ⟨v, h5, h6⟩, h7⟩ hlen
    clear hst bx0 bx1 bx2 hb6 hlen
    have hz1 := h1.size
    have c0 := h3.cell
    have f0 := h3.frozen
    have c1 := h4.cell
    have f1 := h4.frozen
    have c2 := h5.cell
    have f2 := h5.frozen
    have hv := ownsRow_val h6
    by_cases hx : x = []
    · have hbad : ¬ PiecesOk (pre ++ [x]) := fun h => h.1 x (by simp) hx
      subst hx
      have HB := Lib.hid hbad
      clear hbad
      obtain ⟨a', c', rfl⟩ := hv
      gi_wp2
      refine ⟨(KeepsOthers.setCell _ _ _).trans (KeepsOthers.setCell _ _ _), rfl, ?_, by simp; omega, ?_, ?_, HB.out⟩
      · exact (h1.setCell (p := ⟨w.heap.size, 0, none⟩) (Nat.le_refl _) _).setCell (p := ⟨w.heap.size + 1, 0, none⟩) (by simp) _
      · exact (h3.set _).kept (grownBy_setCell' _ _ _) (by simp)
      · exact Boxed.set _ (h4.kept (grownBy_setCell' _ _ _) (by simp))
    · by_cases h16 : 16 ≤ pre.length
      · have hbad : ¬ PiecesOk (pre ++ [x]) := fun h => by have := h.2; simp at this; omega
        have HB := Lib.hid hbad
        obtain ⟨a', c', rfl⟩ := hv
        have hne : x.isEmpty = false := by simpa using hx
        clear hbad hx
        gi_wp2
        refine ⟨(KeepsOthers.setCell _ _ _).trans (KeepsOthers.setCell _ _ _), rfl, ?_, by simp; omega, ?_, ?_, HB.out⟩
        · exact (h1.setCell (p := ⟨w.heap.size, 0, none⟩) (Nat.le_refl _) _).setCell (p := ⟨w.heap.size + 1, 0, none⟩) (by simp) _
        · exact (h3.set _).kept (grownBy_setCell' _ _ _) (by simp)
        · exact Boxed.set _ (h4.kept (grownBy_setCell' _ _ _) (by simp))
      · have hok : PiecesOk (pre ++ [x]) := ⟨fun y hy => by rcases List.mem_append.1 hy with h | h; exact h7.1 y h; (obtain rfl : y = x := by simpa using h); exact hx, by simp; omega⟩
        have hne : x.isEmpty = false := by simpa using hx
        have HO := Lib.hid hok
        have hml : ((pre ++ [x]).map unDash).map Value.string = (pre.map unDash).map Value.string ++ [.string (unDash x)] := by simp
        have HM := Lib.hid hml
        obtain ⟨a', c', rfl⟩ := hv
        clear hok hml
        by_cases hd : x = [45]
        · subst hd
          have e : unDash [45] = ⟨#[]⟩ := by simp [unDash]
          rw [e] at HM
          clear e
          gi_wp2_with (gi_at_builtin; refine wpListIn_append_own _ rfl _ _ 44 rfl (w.heap.size + 6) 45 i0 (.string ByteArray.empty) 1 16 Tryd.underlying44 hi hi0 hi1 hi2 rfl (by decide) _ _ _ rfl (h6.alloc _) ⟨W.heap.size, 0, none⟩ 1 1 [.string ⟨#[]⟩] rfl rfl (cell_one_new _ _ _) (fun x hx => by simp at hx; subst hx; rfl) (by unfold maxLen; omega) (by omega) (by simp; omega) ?_; intro v' w3 hown' hgrow hnil; obtain ⟨g', cap', rfl⟩ := ownsRow_succ hown'; obtain ⟨k1, k2, k3, k4, k5, k6⟩ := boxed_appended h5 h6 h2 (by omega) hown' hgrow; have hc4 := k1.cell; have hf4 := k1.frozen)
          refine ⟨k4, ⟨k4.size, fun j hj => k5 j (by omega) (by omega)⟩, k6 _ _ (by omega) h1, Nat.le_trans h2 k4.size, ?_, ?_, ⟨_, k2, ?_⟩, HO.out⟩
          · exact (k5 _ (by omega) (by omega)).trans h3
          · exact (k5 _ (by omega) (by omega)).trans h4
          · rw [HM.out, List.length_append]; exact k3
        · have e : unDash x = ⟨x.toArray⟩ := by simp [unDash, hd]
          have hdd : (x == [45]) = false := by simpa using hd
          rw [e] at HM
          clear e
          gi_wp2_with (gi_at_builtin; refine wpListIn_append_own _ rfl _ _ 44 rfl (w.heap.size + 6) 45 i0 (.string ByteArray.empty) 1 16 Tryd.underlying44 hi hi0 hi1 hi2 rfl (by decide) _ _ _ rfl (h6.alloc _) ⟨W.heap.size, 0, none⟩ 1 1 [.string ⟨x.toArray⟩] rfl rfl (cell_one_new _ _ _) (fun x hx => by simp at hx; subst hx; rfl) (by unfold maxLen; omega) (by omega) (by simp; omega) ?_; intro v' w3 hown' hgrow hnil; obtain ⟨g', cap', rfl⟩ := ownsRow_succ hown'; obtain ⟨k1, k2, k3, k4, k5, k6⟩ := boxed_appended h5 h6 h2 (by omega) hown' hgrow; have hc4 := k1.cell; have hf4 := k1.frozen)
          refine ⟨k4, ⟨k4.size, fun j hj => k5 j (by omega) (by omega)⟩, k6 _ _ (by omega) h1, Nat.le_trans h2 k4.size, ?_, ?_, ⟨_, k2, ?_⟩, HO.out⟩
          · exact (k5 _ (by omega) (by omega)).trans h3
          · exact (k5 _ (by omega) (by omega)).trans h4
          · rw [HM.out, List.length_append]; exact k3
  case done =>
    rintro D xs W hD hxs ⟨h1, h2, h3, h4, ⟨v, h5, h6⟩, h7⟩ hK
    have hxs' : xs = piecesOf s := hxs
    clear hxs hst bx0 bx1 bx2 hb6
    subst hxs'
    have c2 := h5.cell
    have c0 := h3.cell
    have f0 := h3.frozen
    have c1 := h4.cell
    have f1 := h4.frozen
    obtain ⟨a', c', rfl⟩ := ownsRow_val h6
    have hsl : SlOf W a' (strV ((piecesOf s).map unDash)) := slOf_owns h6
    have hpl : (piecesOf s).length = ((piecesOf s).map unDash).length := by simp
    have hck := fun w h => check_calls a' c' ((piecesOf s).map unDash) (by have := h7.2; simp; unfold maxLen; omega) w h
    rw [← hpl] at hck
    clear hpl
    cases ht : tableB ((piecesOf s).map unDash) with
    | true =>
      have e1 : checkE ((piecesOf s).map unDash) = 0 := by simp [checkE, ht]
      have e2 : readE s = 0 := by simp [readE, readB, ht, h7]
      have e3 : readL s = (piecesOf s).map unDash := by simp [readL, readB, ht, h7]
      rw [e1] at hck
      have HE2 := Lib.hid e2
      have HE3 := Lib.hid e3
      clear e1 e2 e3 ht
      have HC := Lib.hid hck
      clear hck
      gi_wp2_with fail
      refine ⟨trivial, (callsIn_wide.2 (HC.out _ hsl)).mono ?_⟩; rintro e7 w7 ⟨rfl, hb7⟩; have hz7 := hb7.size; (try simp at hz7)
      have hg7 := grown_of_below hb7
      have hK7 := (hg7.block D (Array.getElem?_eq_some_iff.1 hK).1 (by simp)).trans hK
      have bb2 := h5.kept hg7 (by simp)
      have bb1 := h4.kept hg7 (by simp)
      have bb0 := h3.kept hg7 (by simp)
      have o7 := h6.kept hg7 (Classical.em _)
      have hb8 := Below.then h1 hb7 h1.size
      have d2 := bb2.cell
      have d1 := bb1.cell
      have d0 := bb0.cell
      have g1 := bb1.frozen
      have g0 := bb0.frozen
      clear hb7 hsl
      gi_wp2
      refine read_ends (a := a') (c := c') rfl rfl ?_ ?_ ?_ (by omega) ?_ ?_
      · have := (bb0.set (.slice a' (piecesOf s).length c')).kept (grownBy_setCell' _ (w.heap.size + 1) (.int .i64 0)) (by simp)
        rw [HE3.out]
        rw [List.length_map]; exact this
      · rw [HE2.out]
        exact Boxed.set _ (bb1.kept (grownBy_setCell' _ _ _) (by simp))
      · exact (hb8.setCell (p := ⟨w.heap.size, 0, none⟩) (Nat.le_refl _) _).setCell (p := ⟨w.heap.size + 1, 0, none⟩) (by simp) _
      · exact ((KeepsOthers.setCell _ _ _).trans (KeepsOthers.setCell _ _ _)).same _ _ hK7 rfl
      · rw [HE3.out]
        exact slOf_owns (ownsRow_set (ownsRow_set o7 _ (by omega) _) _ (by omega) _)
    | false =>
      have e1 : checkE ((piecesOf s).map unDash) = 2 := by simp [checkE, ht]
      have e2 : readE s = 2 := by simp [readE, readB, ht, h7]
      have e3 : readL s = [] := by simp [readL, readB, ht, h7]
      rw [e1] at hck
      have HE2 := Lib.hid e2
      have HE3 := Lib.hid e3
      clear e1 e2 e3 ht
      have HC := Lib.hid hck
      clear hck
      gi_wp2_with fail
      refine ⟨trivial, (callsIn_wide.2 (HC.out _ hsl)).mono ?_⟩; rintro e7 w7 ⟨rfl, hb7⟩; have hz7 := hb7.size; (try simp at hz7)
      have hg7 := grown_of_below hb7
      have hK7 := (hg7.block D (Array.getElem?_eq_some_iff.1 hK).1 (by simp)).trans hK
      have bb2 := h5.kept hg7 (by simp)
      have bb1 := h4.kept hg7 (by simp)
      have bb0 := h3.kept hg7 (by simp)
      have o7 := h6.kept hg7 (Classical.em _)
      have hb8 := Below.then h1 hb7 h1.size
      have d2 := bb2.cell
      have d1 := bb1.cell
      have d0 := bb0.cell
      have g1 := bb1.frozen
      have g0 := bb0.frozen
      clear hb7 hsl
      gi_wp2
      refine read_ends (a := none) (c := 0) rfl rfl ?_ ?_ ?_ (by omega) ?_ ?_
      · have := (bb0.set (.slice none 0 0)).kept (grownBy_setCell' _ (w.heap.size + 1) (.int .i64 2)) (by simp)
        rw [HE3.out]
        exact this
      · rw [HE2.out]
        exact Boxed.set _ (bb1.kept (grownBy_setCell' _ _ _) (by simp))
      · exact (hb8.setCell (p := ⟨w.heap.size, 0, none⟩) (Nat.le_refl _) _).setCell (p := ⟨w.heap.size + 1, 0, none⟩) (by simp) _
      · exact ((KeepsOthers.setCell _ _ _).trans (KeepsOthers.setCell _ _ _)).same _ _ hK7 rfl
      · rw [HE3.out]
        exact .inl rfl
  case stop =>
    rintro D c pre W hD hpre ⟨rfl, h1, h2, h3, h4, h7⟩ hK
    have hno : ¬ PiecesOk (piecesOf s) := fun h => h7 (h.prefix hpre)
    have e2 : readE s = 2 := by simp [readE, readB, hno]
    have e3 : readL s = [] := by simp [readL, readB, hno]
    have HE2 := Lib.hid e2
    have HE3 := Lib.hid e3
    have c0 := h3.cell
    have c1 := h4.cell
    clear e2 e3 hno h7 hst bx0 bx1 bx2 hb6
    gi_wp2
    refine read_ends (a := none) (c := 0) rfl rfl (by rw [HE3.out]; exact h3) (by rw [HE2.out]; exact h4) h1 (by omega) (by simpa using hK) (by rw [HE3.out]; exact .inl rfl)

end Go.Proofs.YtcdfhceohjhogaaDoor
