/- The layer 'op': an operation out of its text. -/
import Derived.Test.YtlohfcinffaagaaDoorOpR
import Derived.Test.YtlohfcinffaagaaDoorOpS
import Derived.Test.YtlohfcinffaagaaDoorRound
import Derived.Deep.RegionHeld3
namespace Go.Proofs.YtlohfcinffaagaaDoor
open Go.RowKit Go.Shelf
set_option linter.unusedVariables false
set_option linter.unusedSimpArgs false
attribute [local go_sem] Oper.semAt_some


theorem OpAt.ofHeap {W W' : World} {b : Nat} {o : OpN} (h : OpAt W b o) (hh : W'.heap[b]? = W.heap[b]?) (hz : W.heap.size ≤ W'.heap.size) : OpAt W' b o := by
  have hc : ∀ i, W'.cell? ⟨b, i, none⟩ = W.cell? ⟨b, i, none⟩ := fun i => World.cell?_of_block (w := W) hh
  have hf : ∀ i, W'.frozen? ⟨b, i, none⟩ = W.frozen? ⟨b, i, none⟩ := fun i => World.frozen?_of_block (w := W) hh
  exact ⟨Nat.lt_of_lt_of_le h.lt hz, (hc _).trans h.c0, (hc _).trans h.c1, (hc _).trans h.c2, (hc _).trans h.c3, (hc _).trans h.c4, (hc _).trans h.c5, (hc _).trans h.c6, (hc _).trans h.c7, fun i => (hf _).trans (h.fz i)⟩
theorem SlOf.putObj {W : World} {a : Option Addr} {vs : List Value} (h : SlOf W a vs) {D : Nat} {o : Obj} (o' : Obj) (hD : W.heap[D]? = some o) (ho : o.isCells = false) : SlOf (W.putObj D o') a vs := by
  rcases h with h | ⟨b, p, ha, hlt, hc⟩
  · exact .inl h
  · exact .inr ⟨b, p, ha, by simpa using hlt, fun i hi => cell_kept (hc i hi) (grownBy_putObj' W D o') (fun r e => by cases e; exact ⟨o, hD, ho⟩)⟩
theorem OpAt.putK {W : World} {b : Nat} {o : OpN} (h : OpAt W b o) (k : Int) : OpAt (W.setCell ⟨b, 0, none⟩ (.int .i64 k)) b { o with k := k } := by
  have ho : ∀ j, 0 ≠ j → (W.setCell ⟨b, 0, none⟩ (.int .i64 k)).cell? ⟨b, j, none⟩ = W.cell? ⟨b, j, none⟩ := fun j hj => cell_off _ _ _ _ _ hj
  exact ⟨by rw [World.size_setCell]; exact h.lt, cell_put _ _ _ (by rw [h.c0]; rfl), (ho _ (by decide)).trans h.c1, (ho _ (by decide)).trans h.c2, (ho _ (by decide)).trans h.c3, (ho _ (by decide)).trans h.c4, (ho _ (by decide)).trans h.c5, (ho _ (by decide)).trans h.c6, (ho _ (by decide)).trans h.c7, fun i => by rw [World.frozen?_setCell]; exact h.fz i⟩
/-- what the loop over the kinds keeps: the operation, its pointer, the names' box, from block b on -/
structure RdI (W1 : World) (b bX bM : Nat) (o : OpN) (v : Value) (W : World) : Prop where
  bel : Below b W1 W
  op : OpAt W b o
  px : W.heap[bX]? = some (.cells #[.pointer (some ⟨b, 0, none⟩)] 73 (0, 0))
  nm : W.heap[bM]? = some (.cells #[v] 59 (0, 0))
theorem RdI.below {W1 W W' : World} {b bX bM : Nat} {o : OpN} {v : Value} (h : RdI W1 b bX bM o v W) (hb : Below W.heap.size W W') : RdI W1 b bX bM o v W' :=
  ⟨h.bel.trans (hb.mono (Nat.le_of_lt h.op.lt)), h.op.below hb, (hb.block _ (Array.getElem?_eq_some_iff.1 h.px).1).trans h.px, (hb.block _ (Array.getElem?_eq_some_iff.1 h.nm).1).trans h.nm⟩
theorem RdI.putObj {W1 W : World} {b bX bM : Nat} {o : OpN} {v : Value} (h : RdI W1 b bX bM o v W) {l : Nat} {x : Obj} (x' : Obj) (hb : b < l) (hX : bX < l) (hM : bM < l) (hl : W.heap[l]? = some x) (hc : x.isCells = false) : RdI W1 b bX bM o v (W.putObj l x') :=
  ⟨h.bel.trans ⟨rfl, rfl, rfl, by simp, fun j hj => World.putObj_heap_other (by omega)⟩, h.op.ofHeap (World.putObj_heap_other (by omega)) (by simp), (World.putObj_heap_other (by omega)).trans h.px, (World.putObj_heap_other (by omega)).trans h.nm⟩
theorem RdI.put {W1 W : World} {b bX bM : Nat} {o : OpN} {u : Value} (h : RdI W1 b bX bM o u W) (n : Nat) (hn : n ≤ 6) (v : Int) (n1 : b < bX) (n2 : b < bM) : RdI W1 b bX bM (o.set n v) u (W.setCell ⟨b, n + 1, none⟩ (.int .i64 v)) :=
  ⟨h.bel.setCell (p := ⟨b, n + 1, none⟩) (Nat.le_refl _) _, h.op.put n hn v, (Below.heap_setCell _ _ _ _ (by show bX ≠ b; omega)).trans h.px, (Below.heap_setCell _ _ _ _ (by show bM ≠ b; omega)).trans h.nm⟩
theorem RdI.found {W1 W : World} {b bX bM : Nat} {v : Value} (h : RdI W1 b bX bM (OpN.only 0) v W) (k : Int) (u : Value) (n1 : b ≠ bM) (n2 : b ≠ bX) (n3 : bM ≠ bX) (hle : b < bM) : RdI W1 b bX bM (OpN.only k) u ((W.setCell ⟨b, 0, none⟩ (.int .i64 k)).setCell ⟨bM, 0, none⟩ u) := by
  refine ⟨(h.bel.setCell (p := ⟨b, 0, none⟩) (Nat.le_refl _) _).setCell (p := ⟨bM, 0, none⟩) (by show b ≤ bM; omega) _, ?_, ?_, ?_⟩
  · refine OpAt.setOther ?_ _ _ (by show bM ≠ b; omega)
    exact h.op.putK k
  · exact (Below.heap_setCell _ _ _ _ (by show bX ≠ bM; omega)).trans ((Below.heap_setCell _ _ _ _ (by show bX ≠ b; omega)).trans h.px)
  · exact Boxed.set u (show Boxed (W.setCell ⟨b, 0, none⟩ (.int .i64 k)) bM 59 v from (Below.heap_setCell _ _ _ _ (by show bM ≠ b; omega)).trans h.nm)
/-- the return: out of the result's cells; the block of the round's deferred calls is shut -/
theorem opRead_ends {w W8 : World} {tmps : Array Value} {D : Nat} (o : OpN) (e : Int) (hp : tmps.getD 2 undef = .pointer (some ⟨w.heap.size, 0, none⟩)) (hq : tmps.getD 3 undef = .int .i64 e)
    (hA : OpAt W8 w.heap.size o) (hb : Below w.heap.size w W8) (hD : w.heap.size < D) (hK : W8.heap[D]? = some (.deferred (some []))) :
    LeavesInM Fence.wide 5 Tryd.prog Tryd.f21 tmps (fun e' w' => e' = .returned (.tuple #[opVal o, .int .i64 e]) ∧ Below w.heap.size w w') [{ target := .collected D, args := #[] }] .returning W8 := by
  rw [Array.getD_eq_getD_getElem?] at hp hq
  refine ⟨by simp, .inl ⟨_, _, rfl, run_takeDeferred hK, ?_⟩⟩
  have hA' : OpAt (W8.putObj D (.deferred none)) w.heap.size o := hA.ofHeap (World.putObj_heap_other (by omega)) (by simp)
  have hb' : Below w.heap.size w (W8.putObj D (.deferred none)) := hb.trans (belowK_b (w := w) (Nat.le_refl _) W8 D _ _ (by omega) hK rfl rfl)
  obtain ⟨W9, h9⟩ : ∃ W9, W8.putObj D (.deferred none) = W9 := ⟨_, rfl⟩
  rw [h9] at hA' hb' ⊢
  obtain ⟨q1, q2, q3, q4, q5, q6, q7, q8, q9, qf⟩ := hA'
  exact ⟨_, (by simp [results, Tryd.results21, hp, hq, go_sem, q2, q3, q4, q5, q6, q7, q8, q9, opVal] : _ = Result.ok (.tuple #[opVal o, .int .i64 e]) W9), rfl, hb'⟩
theorem OpAt.stored {W : World} {b : Nat} {o : OpN} (h : OpAt W b o) (p : OpN) : OpAt ((((((((W.setCell ⟨b, 0, none⟩ (.int .i64 p.k)).setCell ⟨b, 1, none⟩ (.int .i64 p.a)).setCell ⟨b, 2, none⟩ (.int .i64 p.b)).setCell ⟨b, 3, none⟩ (.int .i64 p.c)).setCell ⟨b, 4, none⟩ (.int .i64 p.f)).setCell ⟨b, 5, none⟩ (.int .i64 p.s)).setCell ⟨b, 6, none⟩ (.int .i64 p.x)).setCell ⟨b, 7, none⟩ (.int .i64 p.y)) b p := by
  have h1 := (((((((h.putK p.k).put 0 (by decide) p.a).put 1 (by decide) p.b).put 2 (by decide) p.c).put 3 (by decide) p.f).put 4 (by decide) p.s).put 5 (by decide) p.x).put 6 (by decide) p.y
  have e : (((((((({ o with k := p.k } : OpN).set 0 p.a).set 1 p.b).set 2 p.c).set 3 p.f).set 4 p.s).set 5 p.x).set 6 p.y) = p := by
    obtain ⟨k, a, b2, c, f, s, x, y⟩ := p
    simp [OpN.set]
  rw [e] at h1
  simp only [Nat.zero_add, Nat.reduceAdd] at h1
  exact h1
theorem stored_below {A W : World} {b : Nat} (h : Below b A W) (p : OpN) : Below b A ((((((((W.setCell ⟨b, 0, none⟩ (.int .i64 p.k)).setCell ⟨b, 1, none⟩ (.int .i64 p.a)).setCell ⟨b, 2, none⟩ (.int .i64 p.b)).setCell ⟨b, 3, none⟩ (.int .i64 p.c)).setCell ⟨b, 4, none⟩ (.int .i64 p.f)).setCell ⟨b, 5, none⟩ (.int .i64 p.s)).setCell ⟨b, 6, none⟩ (.int .i64 p.x)).setCell ⟨b, 7, none⟩ (.int .i64 p.y)) := by
  exact (((((((h.setCell (Nat.le_refl _) _).setCell (Nat.le_refl _) _).setCell (Nat.le_refl _) _).setCell (Nat.le_refl _) _).setCell (Nat.le_refl _) _).setCell (Nat.le_refl _) _).setCell (Nat.le_refl _) _).setCell (Nat.le_refl _) _
theorem stored_keeps (W : World) (b : Nat) (p : OpN) : KeepsOthers W ((((((((W.setCell ⟨b, 0, none⟩ (.int .i64 p.k)).setCell ⟨b, 1, none⟩ (.int .i64 p.a)).setCell ⟨b, 2, none⟩ (.int .i64 p.b)).setCell ⟨b, 3, none⟩ (.int .i64 p.c)).setCell ⟨b, 4, none⟩ (.int .i64 p.f)).setCell ⟨b, 5, none⟩ (.int .i64 p.s)).setCell ⟨b, 6, none⟩ (.int .i64 p.x)).setCell ⟨b, 7, none⟩ (.int .i64 p.y)) := by
  exact (((((((KeepsOthers.setCell _ _ _).trans (KeepsOthers.setCell _ _ _)).trans (KeepsOthers.setCell _ _ _)).trans (KeepsOthers.setCell _ _ _)).trans (KeepsOthers.setCell _ _ _)).trans (KeepsOthers.setCell _ _ _)).trans (KeepsOthers.setCell _ _ _)).trans (KeepsOthers.setCell _ _ _)
theorem no_kind {P : List ByteArray} {l : List (List UInt8)} {p0 : ByteArray} (hp1 : 1 ≤ P.length) (h0 : P[0]? = some p0) (hPD : P.map (fun x => x.data.toList) = l) (hno : ∀ k, ¬ KindIs p0 (P.length - 1) k) : readO l = none := by
  have hk : kindOf l = 0 := by
    refine kindOf_none fun k hk => ?_
    cases hb : kindB l k with
    | false => rfl
    | true =>
      exfalso
      unfold kindB at hb
      simp only [Bool.and_eq_true, decide_eq_true_eq] at hb
      refine hno k ⟨hk, ?_, ?_⟩
      · apply bytes_inj'
        rw [hb.1, ← hPD]
        cases P with
        | nil => simp at hp1
        | cons x y => simp at h0; rw [h0]; rfl
      · have := hb.2
        rw [← hPD, List.length_map] at this
        omega
  unfold readO
  rw [if_pos hk]
theorem a_kind {P : List ByteArray} {l : List (List UInt8)} {p0 : ByteArray} (hp1 : 1 ≤ P.length) (h0 : P[0]? = some p0) (hPD : P.map (fun x => x.data.toList) = l) {k : Int} (hk : KindIs p0 (P.length - 1) k) :
    kindOf l = k ∧ (opNames k).length + 1 = P.length := by
  have h2 : (opNames k).length + 1 = P.length := by have := hk.2.2; omega
  refine ⟨kindOf_some hk.1 ?_, h2⟩
  unfold kindB
  simp only [Bool.and_eq_true, decide_eq_true_eq]
  refine ⟨?_, by rw [← hPD, List.length_map]; exact h2⟩
  rw [hk.2.1, ← hPD]
  cases P with
  | nil => simp at hp1
  | cons x y => simp at h0; rw [h0]; rfl
theorem SlOf.get {w : World} {b : Nat} {vs : List Value} (h : SlOf w (some ⟨b, 0, none⟩) vs) (i : Nat) (hi : i < vs.length) : w.cell? ⟨b, i, none⟩ = some vs[i] := by
  rcases h with h | ⟨b', o', e, _, hc⟩
  · subst h; simp at hi
  · cases e; have := hc i hi; rwa [Nat.zero_add] at this

set_option maxRecDepth 1000000 in
set_option maxHeartbeats 6400000 in
theorem opRead_calls (s : ByteArray) (hs : s.size ≤ 1000) (w : World) (hT : WOk w) :
    Calls Tryd.prog 21 #[.string s] w fun e w' => e = .returned (.tuple #[opVal (readOp s), .int .i64 (readErr s)]) ∧ Below w.heap.size w w' := by
  obtain ⟨mx, hmx⟩ := hT.mx
  obtain ⟨P, hP⟩ : ∃ P, Lib.splitB blank 0 (Lib.countB s blank) s = P := ⟨_, rfl⟩
  have hpd := split_pieces s.size s (Nat.le_refl _)
  rw [hP] at hpd
  have hsp := fun W h => Tryd.strings_Split s blank mx W (by omega) h (by decide)
  rw [hP] at hsp
  have hpl : Lib.countB s blank + 1 = P.length := by rw [← hP]; exact (split_len s.size s (Nat.le_refl _)).symm
  have hcb := count_blank s
  rw [hpl] at hsp
  have HSP := Lib.hid hsp
  have HPD := Lib.hid hpd
  have hp1 : 1 ≤ P.length := by omega
  have hp2 : P.length ≤ 1002 := by omega
  clear hsp hpd hpl
  refine (callsIn_wide (n := 5)).1 ?_
  refine callsIn_of_wp_marks Tryd.func21 rfl trivial ?_ rfl
  simp only [Tryd.ntmps21, List.size_toArray, List.length_cons, List.length_nil, Nat.reduceAdd, Nat.reduceSub, Array.replicate_succ, Array.replicate_zero, List.push_toArray, List.append_toArray, List.nil_append, List.cons_append]
  refine wpIn_wide.2 ?_
  go_wp2_with fail
  refine wp_scope_once 1 rfl ?_
  go_wp2_with fail
  refine (HSP.out _ ((((Below.refl _ _).alloc (Nat.le_refl w.heap.size) _).cell (p := ⟨_, 0, none⟩) (World.block_lt_of_cell? w _ hmx)).trans hmx)).mono ?_
  rintro e1 w1 ⟨rfl, rfl⟩
  have hs0 := SlOf.new (w.alloc (.cells #[.int .i64 0, .int .i64 0, .int .i64 0, .int .i64 0, .int .i64 0, .int .i64 0, .int .i64 0, .int .i64 0] 35)) (P.map Value.string) 9 (0, 0)
  obtain ⟨W1, hW1⟩ : ∃ W1, (w.alloc (.cells #[.int .i64 0, .int .i64 0, .int .i64 0, .int .i64 0, .int .i64 0, .int .i64 0, .int .i64 0, .int .i64 0] 35)).alloc (.cells (P.map Value.string).toArray 9) = W1 := ⟨_, rfl⟩
  have hb1 : Below w.heap.size w W1 := by rw [← hW1]; (repeat (first | exact Below.refl _ _ | (with_reducible assumption) | refine Below.drew ?_ | refine Below.drewN' ?_ _ | refine Below.alloc ?_ (by first | omega | (simp; done) | (simp; omega)) _ | refine Below.setCell ?_ (by first | omega | (simp; done) | (simp; omega)) _ | refine Below.then ?_ hb9 (by first | omega | (simp; done) | (simp; omega)) | refine Below.then ?_ hb8 (by first | omega | (simp; done) | (simp; omega)) | refine Below.then ?_ hb7 (by first | omega | (simp; done) | (simp; omega)) | refine Below.then ?_ hb6 (by first | omega | (simp; done) | (simp; omega)) | refine Below.then ?_ hb5 (by first | omega | (simp; done) | (simp; omega)) | refine Below.then ?_ hb4 (by first | omega | (simp; done) | (simp; omega)) | refine Below.then ?_ hb3 (by first | omega | (simp; done) | (simp; omega)) | refine Below.then ?_ hb2 (by first | omega | (simp; done) | (simp; omega)) | refine Below.then ?_ hb1 (by first | omega | (simp; done) | (simp; omega))))
  have hz1 : W1.heap.size = w.heap.size + 1 + 1 := by rw [← hW1]; simp
  have O1 : OpAt W1 w.heap.size (OpN.only 0) := by rw [← hW1]; exact (OpAt.new w (OpN.only 0) 35 _ rfl).alloc _
  rw [hW1] at hs0 ⊢
  simp only [World.size_alloc] at hs0 ⊢
  clear hW1
  obtain ⟨p0, hp0⟩ : ∃ p0, P[0] = p0 := ⟨_, rfl⟩
  have hc0 := hs0.get 0 (by simp; omega)
  simp only [List.getElem_map, hp0] at hc0
  have HS0 := Lib.hid hs0
  have HO1 := Lib.hid O1
  have HP0 : Hid (P[0]? = some p0) := Lib.hid (by rw [List.getElem?_eq_getElem (by omega), hp0])
  have HZ1 := Lib.hid hz1
  obtain ⟨bs, hbs⟩ : ∃ b, w.heap.size + 1 = b := ⟨_, rfl⟩
  have hbs1 : w.heap.size < bs := by omega
  rw [hbs] at hc0 HS0 ⊢
  have hlz : bs < W1.heap.size := by omega
  have hlz1 : bs < W1.heap.size + 1 := by omega
  have hlz2 : bs < W1.heap.size + 1 + 1 := by omega
  have hlz3 : bs < W1.heap.size + 1 + 1 + 1 := by omega
  clear hs0 O1 hp0 hz1 hP hcb hbs
  go_wp2_with fail
  refine wp_label ?_
  go_wp2_with fail
  refine (kinds_calls _ _ _).mono ?_
  rintro e2 w2 ⟨rfl, rfl⟩
  go_wp2_with fail
  obtain ⟨b, hbe⟩ : ∃ b, W1.heap.size = b := ⟨_, rfl⟩
  obtain ⟨w5, hw5⟩ : ∃ W, ((((W1.alloc (.cells #[.int .i64 0, .int .i64 0, .int .i64 0, .int .i64 0, .int .i64 0, .int .i64 0, .int .i64 0, .int .i64 0] 75)).alloc (.cells #[.pointer (some ⟨b, 0, none⟩)] 73)).alloc (.cells #[.slice none 0 0] 59)).alloc (.cells #[.string p0] 9)).alloc (.cells #[.int .i64 (P.length - 1)] 3) = W := ⟨_, rfl⟩
  rw [hbe, hw5]
  have hb5 : Below b W1 w5 := by rw [← hw5, ← hbe]; (repeat (first | exact Below.refl _ _ | (with_reducible assumption) | refine Below.drew ?_ | refine Below.drewN' ?_ _ | refine Below.alloc ?_ (by first | omega | (simp; done) | (simp; omega)) _ | refine Below.setCell ?_ (by first | omega | (simp; done) | (simp; omega)) _ | refine Below.then ?_ hb9 (by first | omega | (simp; done) | (simp; omega)) | refine Below.then ?_ hb8 (by first | omega | (simp; done) | (simp; omega)) | refine Below.then ?_ hb7 (by first | omega | (simp; done) | (simp; omega)) | refine Below.then ?_ hb6 (by first | omega | (simp; done) | (simp; omega)) | refine Below.then ?_ hb5 (by first | omega | (simp; done) | (simp; omega)) | refine Below.then ?_ hb4 (by first | omega | (simp; done) | (simp; omega)) | refine Below.then ?_ hb3 (by first | omega | (simp; done) | (simp; omega)) | refine Below.then ?_ hb2 (by first | omega | (simp; done) | (simp; omega)) | refine Below.then ?_ hb1 (by first | omega | (simp; done) | (simp; omega))))
  have hz5 : w5.heap.size = b + 5 := by rw [← hw5, ← hbe]; simp
  have A0 : OpAt w5 b (OpN.only 0) := by rw [← hw5]; exact ((((OpAt.new W1 (OpN.only 0) 75 _ hbe.symm).alloc _).alloc _).alloc _).alloc _
  have A1 : w5.heap[b + 1]? = some (.cells #[.pointer (some ⟨b, 0, none⟩)] 73 (0, 0)) := by
    rw [← hw5, ← hbe]
    exact (Below.heap_alloc _ _ _ (by simp)).trans ((Below.heap_alloc _ _ _ (by simp)).trans ((Below.heap_alloc _ _ _ (by simp)).trans (by have := World.alloc_heap_new (W1.alloc (.cells #[.int .i64 0, .int .i64 0, .int .i64 0, .int .i64 0, .int .i64 0, .int .i64 0, .int .i64 0, .int .i64 0] 75)) (.cells #[.pointer (some ⟨W1.heap.size, 0, none⟩)] 73); rwa [World.size_alloc] at this)))
  have A2 : w5.heap[b + 1 + 1]? = some (.cells #[.slice none 0 0] 59 (0, 0)) := by
    rw [← hw5, ← hbe]
    exact (Below.heap_alloc _ _ _ (by simp)).trans ((Below.heap_alloc _ _ _ (by simp)).trans (by have := World.alloc_heap_new ((W1.alloc (.cells #[.int .i64 0, .int .i64 0, .int .i64 0, .int .i64 0, .int .i64 0, .int .i64 0, .int .i64 0, .int .i64 0] 75)).alloc (.cells #[.pointer (some ⟨W1.heap.size, 0, none⟩)] 73)) (.cells #[.slice none 0 0] 59); simpa only [World.size_alloc] using this))
  have A3 : w5.cell? ⟨b + 1 + 1 + 1, 0, none⟩ = some (.string p0) := by rw [← hw5, ← hbe]; simp [go_sem]
  have A4 : w5.cell? ⟨b + 1 + 1 + 1 + 1, 0, none⟩ = some (.int .i64 (P.length - 1)) := by rw [← hw5, ← hbe]; simp [go_sem]
  have hit := kinds_once 4 (by omega) p0 (P.length - 1) (b + 1 + 1 + 1) w5 (by omega) A3 A4
  have hI0 : RdI W1 b (b + 1) (b + 1 + 1) (OpN.only 0) (.slice none 0 0) w5 := ⟨hb5, A0, A1, A2⟩
  obtain ⟨bX, hX⟩ : ∃ x, b + 1 = x := ⟨_, rfl⟩
  rw [hX] at hI0 hit ⊢
  obtain ⟨bM, hM⟩ : ∃ x, bX + 1 = x := ⟨_, rfl⟩
  rw [hM] at hI0 hit ⊢
  have hlx : b < bX := by omega
  have hlm : bX < bM := by omega
  have hl5 : bM < w5.heap.size := by omega
  have HBE := Lib.hid hbe
  have hwb : w.heap.size + 1 < b := by omega
  clear hw5 A0 A1 A2 A3 A4 hb5 hX hM hz5 hbe
  refine (wpIn_wide (n := 5)).1 ?_
  refine wpIn_range_once (by omega) (gf := 68) (lb := #[.pointer (some ⟨bM + 1, 0, none⟩), .pointer (some ⟨bM + 1 + 1, 0, none⟩)]) rfl (enters_of Tryd.func68 (by kernel_rfl) rfl)
    hit (fun _ => rfl) (RdI W1 b bX bM (OpN.only 0) (.slice none 0 0))
    (fun c x W => c = .exit 0 ∧ RdI W1 b bX bM (OpN.only x.1) (.slice x.2 (opNames x.1).length (opNames x.1).length) W ∧ KindE p0 (P.length - 1) w5.heap.size x W) (fun A B h hb => h.below hb)
    (fun W l o o' h hl hlo hc => h.putObj o' (by omega) (by omega) (by omega) hlo hc) (fun x W l o o' h hlo hc => ⟨h.1, h.2.1, h.2.2.putObj o' hlo hc⟩) (fun c x W l o o' h hl hlo hc => ⟨h.1, h.2.1.putObj o' (by omega) (by omega) (by omega) hlo hc, h.2.2.1, h.2.2.2.1, h.2.2.2.2.putObj o' hlo hc⟩) hI0
    (fun T x V => (((T.setIfInBounds 24 (.int .i64 x.1)).setIfInBounds 25 (.agg #[.string (opName x.1), .slice x.2 (opNames x.1).length (opNames x.1).length])).setIfInBounds 7 (.int .i64 x.1)).setIfInBounds 8 (.pointer (some ⟨V.heap.size, 0, none⟩)))
    (fun x V => V.alloc (.cells #[.string (opName x.1), .slice x.2 (opNames x.1).length (opNames x.1).length] 61)) (fun x V => (Below.refl _ _).alloc (Nat.le_refl _) _)
    (fun x V W => W.heap[V.heap.size]? = some (.cells #[.string (opName x.1), .slice x.2 (opNames x.1).length (opNames x.1).length] 61 (0, 0))) (fun x V => World.alloc_heap_new V _)
    (fun x V W l o o' h hlo hc => (World.putObj_heap_other (by rintro rfl; rw [h] at hlo; cases hlo; cases hc)).trans h) (fun x A B h hb => ⟨h.1, h.2.1, h.2.2.below hb⟩) ?hassign ?hbody ?hdone ?hstop
  case hassign =>
    intro l x W K hK
    have e : (#[24, 25] : Array Tmp).zip (kindEnc x) = #[(24, .int .i64 x.1), (25, .agg #[.string (opName x.1), .slice x.2 (opNames x.1).length (opNames x.1).length])] := by unfold kindEnc; first | (simp; done) | kernel_rfl
    rw [e]
    gi_wp2
    exact hK
  case hbody =>
    rintro l x V W hI hE hA
    have hne : V.heap.size ≠ bM := by
      intro e
      have h2 := hI.nm
      rw [← e, hA] at h2
      simp at h2
    have hne2 : V.heap.size ≠ b := by
      intro e
      have h2 := hI.op.c2
      rw [← e] at h2
      simp [World.cell?, hA] at h2
    have c0 := hI.op.c0
    have f0 := hI.op.fz 0
    have m0 : W.cell? ⟨bM, 0, none⟩ = _ := Boxed.cell hI.nm
    have g0 : W.frozen? ⟨bM, 0, none⟩ = false := Boxed.frozen hI.nm
    have v1 : W.cell? ⟨V.heap.size, 1, none⟩ = some (.slice x.2 (opNames x.1).length (opNames x.1).length) := by simp [World.cell?, hA]
    have px0 : W.cell? ⟨bX, 0, none⟩ = _ := Boxed.cell hI.px
    have HI := Lib.hid hI
    have HE := Lib.hid hE
    clear hI hE hA
    obtain ⟨vb, hvb⟩ : ∃ y, V.heap.size = y := ⟨_, rfl⟩
    rw [hvb] at hne hne2 v1 ⊢
    have nb1 : b ≠ bM := by omega
    have nb2 : b ≠ bX := by omega
    have nb3 : bM ≠ bX := by omega
    have nb4 : b ≠ vb := Ne.symm hne2
    have nb5 : bM ≠ vb := Ne.symm hne
    clear hvb
    gi_wp2
    refine wpIn_region_round (S := fun A => A.cell? ⟨bX, 0, none⟩ = some (.pointer (some ⟨b, 0, none⟩)) ∧ A.cell? ⟨vb, 1, none⟩ = some (.slice x.2 (opNames x.1).length (opNames x.1).length)) (by kernel_rfl) (noDefer_ops (by kernel_rfl)) ?hQ ?hSr (fun hHeld => ?_)
    case hQ =>
      rintro ⟨_, _, h⟩
      exact h
    case hSr => exact ⟨by simpa using px0, by simpa using v1⟩
    (refine wpAnyH_take (i := 0) (oi := ?oiz0) (v := ?vz0) ?hiz0 ?hsz0 ?hfz0 ?hrz0 ?hQz0 ?hyz0 ?hSz0 ?hz0)
    (case hiz0 => rfl)
    (case hsz0 => kernel_rfl)
    (case hfz0 => kernel_rfl)
    (case hrz0 => kernel_rfl)
    (case hQz0 => first | exact fun _ _ _ h => h | exact fun _ _ _ h => (nomatch h.1))
    (case hSz0 => assumption)
    (case hyz0 => (refine Or.inl ⟨by rfl, ?_⟩; intro W hW; (try dsimp only at hW); go_simp; try with_reducible rfl))
    (try simp only [List.getElem_toArray, List.getElem_cons_succ, List.getElem_cons_zero, Act.put, List.setIfInBounds_toArray, List.set_cons_zero, List.set_cons_succ])
    (refine wpAnyH_take (i := 1) (oi := ?oiz1) (v := ?vz1) ?hiz1 ?hsz1 ?hfz1 ?hrz1 ?hQz1 ?hyz1 ?hSz1 ?hz1)
    (case hiz1 => rfl)
    (case hsz1 => kernel_rfl)
    (case hfz1 => kernel_rfl)
    (case hrz1 => kernel_rfl)
    (case hQz1 => first | exact fun _ _ _ h => h | exact fun _ _ _ h => (nomatch h.1))
    (case hSz1 => assumption)
    (case hyz1 => (refine Or.inl ⟨by rfl, ?_⟩; intro W hW; (try dsimp only at hW); go_simp; try with_reducible rfl))
    (try simp only [List.getElem_toArray, List.getElem_cons_succ, List.getElem_cons_zero, Act.put, List.setIfInBounds_toArray, List.set_cons_zero, List.set_cons_succ])
    (refine wpAnyH_take (i := 2) (oi := ?oiz2) (v := ?vz2) ?hiz2 ?hsz2 ?hfz2 ?hrz2 ?hQz2 ?hyz2 ?hSz2 ?hz2)
    (case hiz2 => rfl)
    (case hsz2 => kernel_rfl)
    (case hfz2 => kernel_rfl)
    (case hrz2 => kernel_rfl)
    (case hQz2 => first | exact fun _ _ _ h => h | exact fun _ _ _ h => (nomatch h.1))
    (case hSz2 => assumption)
    (case hyz2 => (refine Or.inl ⟨by rfl, ?_⟩; intro W hW; (try dsimp only at hW); go_simp; try with_reducible rfl))
    (try simp only [List.getElem_toArray, List.getElem_cons_succ, List.getElem_cons_zero, Act.put, List.setIfInBounds_toArray, List.set_cons_zero, List.set_cons_succ])
    (refine wpAnyH_take (i := 3) (oi := ?oiz3) (v := ?vz3) ?hiz3 ?hsz3 ?hfz3 ?hrz3 ?hQz3 ?hyz3 ?hSz3 ?hz3)
    (case hiz3 => rfl)
    (case hsz3 => kernel_rfl)
    (case hfz3 => kernel_rfl)
    (case hrz3 => kernel_rfl)
    (case hQz3 => first | exact fun _ _ _ h => h | exact fun _ _ _ h => (nomatch h.1))
    (case hSz3 => assumption)
    (case hyz3 => (refine Or.inl ⟨by rfl, ?_⟩; intro W hW; (try dsimp only at hW); go_simp; try with_reducible rfl))
    (try simp only [List.getElem_toArray, List.getElem_cons_succ, List.getElem_cons_zero, Act.put, List.setIfInBounds_toArray, List.set_cons_zero, List.set_cons_succ])
    (refine wpAnyH_take (i := 4) (oi := ?oiz4) (v := ?vz4) ?hiz4 ?hsz4 ?hfz4 ?hrz4 ?hQz4 ?hyz4 ?hSz4 ?hz4)
    (case hiz4 => rfl)
    (case hsz4 => kernel_rfl)
    (case hfz4 => kernel_rfl)
    (case hrz4 => kernel_rfl)
    (case hQz4 => first | exact fun _ _ _ h => h | exact fun _ _ _ h => (nomatch h.1))
    (case hSz4 => assumption)
    (case hyz4 => (refine Or.inl ⟨by rfl, ?_⟩; intro W hW; (try dsimp only at hW); go_simp; try with_reducible rfl))
    (try simp only [List.getElem_toArray, List.getElem_cons_succ, List.getElem_cons_zero, Act.put, List.setIfInBounds_toArray, List.set_cons_zero, List.set_cons_succ])
    (refine wpAnyH_take (i := 5) (oi := ?oiz5) (v := ?vz5) ?hiz5 ?hsz5 ?hfz5 ?hrz5 ?hQz5 ?hyz5 ?hSz5 ?hz5)
    (case hiz5 => rfl)
    (case hsz5 => kernel_rfl)
    (case hfz5 => kernel_rfl)
    (case hrz5 => kernel_rfl)
    (case hQz5 => first | exact fun _ _ _ h => h | exact fun _ _ _ h => (nomatch h.1))
    (case hSz5 => assumption)
    (case hyz5 => (refine Or.inl ⟨by rfl, ?_⟩; intro W hW; (try dsimp only at hW); go_simp; try with_reducible rfl))
    (try simp only [List.getElem_toArray, List.getElem_cons_succ, List.getElem_cons_zero, Act.put, List.setIfInBounds_toArray, List.set_cons_zero, List.set_cons_succ])
    (refine wpAnyH_take (i := 6) (oi := ?oiz6) (v := ?vz6) ?hiz6 ?hsz6 ?hfz6 ?hrz6 ?hQz6 ?hyz6 ?hSz6 ?hz6)
    (case hiz6 => rfl)
    (case hsz6 => kernel_rfl)
    (case hfz6 => kernel_rfl)
    (case hrz6 => kernel_rfl)
    (case hQz6 => first | exact fun _ _ _ h => h | exact fun _ _ _ h => (nomatch h.1))
    (case hSz6 => assumption)
    (case hyz6 => (refine Or.inl ⟨by rfl, ?_⟩; intro W hW; (try dsimp only at hW); go_simp; try with_reducible rfl))
    (try simp only [List.getElem_toArray, List.getElem_cons_succ, List.getElem_cons_zero, Act.put, List.setIfInBounds_toArray, List.set_cons_zero, List.set_cons_succ])
    refine wpAnyH_ready (rs := [7]) (by kernel_rfl) (by simp) ?_
    refine AllReadyH.cons rfl (fun K hK => ?_) (AllReadyH.nil)
    go_simp
    refine hK.out _ _ ?_ (fun hHeld => ?_)
    · exact ⟨(cell_blk _ _ _ _ _ _ nb2).trans px0, (cell_blk _ _ _ _ _ _ nb4).trans v1⟩
    clear hK K
    (try simp only [List.getElem_toArray, List.getElem_cons_succ, List.getElem_cons_zero, Act.put, List.setIfInBounds_toArray, List.set_cons_zero, List.set_cons_succ])
    refine wpAnyH_ready (rs := [8]) (by kernel_rfl) (by simp) ?_
    refine AllReadyH.cons rfl (fun K hK => ?_) (AllReadyH.nil)
    go_simp
    refine hK.out _ _ ?_ (fun hHeld => ?_)
    · exact ⟨(cell_blk _ _ _ _ _ _ nb3).trans ((cell_blk _ _ _ _ _ _ nb2).trans px0), (cell_blk _ _ _ _ _ _ nb5).trans ((cell_blk _ _ _ _ _ _ nb4).trans v1)⟩
    clear hK K
    (try simp only [List.getElem_toArray, List.getElem_cons_succ, List.getElem_cons_zero, Act.put, List.setIfInBounds_toArray, List.set_cons_zero, List.set_cons_succ])
    refine wpAnyH_done (by kernel_rfl) ?_ _
    gi_wp2
    refine ⟨((KeepsOthers.setCell _ _ _).trans (KeepsOthers.setCell _ _ _)).trans (KeepsOthers.drew _), rfl, (HI.out.found x.1 _ nb1 nb2 nb3 (by omega)).below (Below.refl _ _).drew, HE.out.1, HE.out.2.1, ((HE.out.2.2.setCell _ _ fun y hy => ?_).setCell _ _ fun y hy => ?_).drew⟩
    · have := HE.out.2.1 y hy
      show y.block ≠ b
      omega
    · have := HE.out.2.1 y hy
      show y.block ≠ bM
      omega
  case hdone =>
    intro D W hD hno hI hK
    have c0 : W.cell? ⟨b, 0, none⟩ = some (.int .i64 0) := hI.op.c0
    have px0 : W.cell? ⟨bX, 0, none⟩ = _ := Boxed.cell hI.px
    have OW := HO1.out.below (w' := W) (by rw [HBE.out]; exact hI.bel)
    have hBW : Below w.heap.size w W := hb1.trans (hI.bel.mono (by omega))
    obtain ⟨q1, q2, q3, q4, q5, q6, q7, q8, q9, qf⟩ := OW
    have HOW := Lib.hid (OpAt.mk q1 q2 q3 q4 q5 q6 q7 q8 q9 qf)
    have HN := Lib.hid hno
    have HKD := Lib.hid hK
    clear hno hK hit hI0 hI
    go_wp2
    go_step3
    refine ⟨rfl, ?_⟩
    go_wp2
    rw [Exit.noGoto_ret]
    have hro : readO (splitSp s.data.toList) = none := no_kind hp1 HP0.out HPD.out HN.out
    have e1 : readOp s = OpN.only 0 := by unfold readOp; rw [hro]; rfl
    have e2 : readErr s = 186 := by unfold readErr; rw [hro]; rfl
    refine opRead_ends (readOp s) (readErr s) rfl (by rw [e2]; rfl) (by rw [e1]; exact HOW.out.stored (OpN.only 0)) ?_ (by omega) ((stored_keeps W w.heap.size (OpN.only 0)).same _ _ HKD.out rfl)
    exact stored_below hBW (OpN.only 0)
  case hstop =>
    rintro D c ⟨k, a⟩ W hD ⟨rfl, hI, hE⟩ hK
    simp only at hI hE
    have c0 : W.cell? ⟨b, 0, none⟩ = some (.int .i64 k) := hI.op.c0
    have px0 : W.cell? ⟨bX, 0, none⟩ = _ := Boxed.cell hI.px
    have m0 : W.cell? ⟨bM, 0, none⟩ = _ := Boxed.cell hI.nm
    have hx0 : (k == 0) = false := by have := hE.1.1; unfold opIs at this; simp only [decide_eq_true_eq] at this; rw [beq_eq_false_iff_ne]; omega
    have hEk : KindIs p0 (P.length - 1) k := hE.1
    obtain ⟨hkk, hnp⟩ := a_kind hp1 HP0.out HPD.out hEk
    have hro : readO (splitSp s.data.toList) = numsTo (opNames k) (splitSp s.data.toList) (opNames k).length (OpN.only k) := by
      unfold readO
      rw [hkk, if_neg (by have := hE.1.1; unfold opIs at this; simp only [decide_eq_true_eq] at this; omega)]
    have HI := Lib.hid hI
    have HE := Lib.hid hE
    have HKD := Lib.hid hK
    have HRO := Lib.hid hro
    have hnp' : (opNames k).length < P.length := by omega
    have hn4 := names_len k
    have HNP := Lib.hid hnp
    clear hI hE hK hit hI0 hkk hro hnp
    refine wpIn_wide.2 ?_
    go_wp2_with fail
    go_loopw [41] (fun i wr => ∃ (j : Nat) (o : OpN), j ≤ (opNames k).length ∧ i = .int .i64 j ∧ Hid (numsTo (opNames k) (splitSp s.data.toList) j (OpN.only k) = some o) ∧ RdI W1 b bX bM o (.slice a (opNames k).length (opNames k).length) wr ∧ SlOf wr a (nmV (opNames k)) ∧ wr.heap[D]? = some (.deferred (some []))) (fun i _ => (opNames k).length - (intOf i).toNat)
    case atStart => exact ⟨0, OpN.only k, by omega, rfl, Lib.hid rfl, HI.out, HE.out.2.2, HKD.out⟩
    case round =>
      obtain ⟨j, o, hj, rfl, hnum, hR, hsl, hKr⟩ := hrel
      have hcr := hR.op.lt
      have px1 : wr.cell? ⟨bX, 0, none⟩ = _ := Boxed.cell hR.px
      have hPs := HS0.out.below (w' := wr) (by rw [HBE.out]; exact hR.bel)
      have HOW := Lib.hid (HO1.out.below (w' := wr) (by rw [HBE.out]; exact hR.bel))
      have HBW : Hid (Below w.heap.size w wr) := Lib.hid (hb1.trans (hR.bel.mono (by have := HBE.out; omega)))
      have HR := Lib.hid hR
      have HKR := Lib.hid hKr
      clear hR hKr c0 px0 m0
      by_cases hlt : j < (opNames k).length
      · rcases hsl with h0 | ⟨nb, off, rfl, hbl, hcell⟩
        · have := congrArg List.length h0; rw [nmV_len, List.length_nil] at this; omega
        have hSL : Hid (SlOf wr (some ⟨nb, off, none⟩) (nmV (opNames k))) := Lib.hid (.inr ⟨nb, off, rfl, hbl, hcell⟩)
        have hcx := hcell j (by rw [nmV_len]; exact hlt)
        rw [nmV_get _ j hlt] at hcx
        have hn6 : (opNames k)[j] ≤ 6 := names_le k _ (List.getElem_mem hlt)
        have hP2 := HNP.out
        have hcp := hPs.get (j + 1) (by rw [List.length_map]; omega)
        rw [List.getElem_map] at hcp
        obtain ⟨q, hq⟩ : ∃ q, P[j + 1]'(by omega) = q := ⟨_, rfl⟩
        rw [hq] at hcp
        have hcp' : wr.cell? ⟨bs, 1 + j, none⟩ = some (.string q) := by rw [Nat.add_comm 1 j]; exact hcp
        have hql : (splitSp s.data.toList).getD (j + 1) [] = q.data.toList := by
          rw [← HPD.out, List.getD_eq_getElem?_getD, List.getElem?_map, List.getElem?_eq_getElem (by omega)]
          simp only [Option.map_some, Option.getD_some]
          rw [hq]
        have hqs : q.size ≤ 1000 := by
          have hmem : q.data.toList ∈ splitSp s.data.toList := by
            rw [← HPD.out]
            exact List.mem_map.2 ⟨q, by rw [← hq]; exact List.getElem_mem _, rfl⟩
          have := split_le _ _ hmem
          rw [Array.length_toList, Array.length_toList] at this
          exact Nat.le_trans this hs
        obtain ⟨n, hn⟩ : ∃ n, (opNames k)[j] = n := ⟨_, rfl⟩
        have hnd : (opNames k).getD j 0 = n := by rw [List.getD_eq_getElem?_getD, List.getElem?_eq_getElem hlt]; exact hn
        rw [hn] at hcx hn6
        have hst := numsTo_step hnum.out
        rw [hql, hnd] at hst
        have hpt := fun W => parts_at n hn6 W
        have HST := Lib.hid hst
        have hTr := hT.below HBW.out
        have hjp : 1 + j < P.length := by omega
        have hjp0 : (0 : Int) ≤ 1 + j := by omega
        have hbs2 : bs < wr.heap.size := by have := HBE.out; omega
        clear hcell hcp hq hql hn hnd hst hP2 hPs
        go_wp2_with fail
        refine (whole_calls q (by omega) _ hTr).mono ?_
        rintro e6 w6 ⟨hb6, v, bb, rfl, hwv⟩
        have O6 := HR.out.op.below hb6
        have R6 := Lib.hid (HR.out.below hb6)
        have S6 := Lib.hid (hSL.out.below hb6)
        have K6 := Lib.hid ((hb6.block _ (Array.getElem?_eq_some_iff.1 HKR.out).1).trans HKR.out)
        have HW6 := Lib.hid (HOW.out.below hb6)
        have hB6 : Hid (Below w.heap.size w w6) := Lib.hid (HBW.out.trans (hb6.mono HBW.out.size))
        have px6 : w6.cell? ⟨bX, 0, none⟩ = _ := Boxed.cell R6.out.px
        have hz6 := hb6.size
        clear px1 hcx hcp' hTr hb6
        cases bb with
        | false =>
          have hnn : readO (splitSp s.data.toList) = none := by
            rw [HRO.out]
            refine numsTo_none (j := j + 1) ?_ _ hlt
            rw [HST.out, hwv]
            rfl
          have HNN := Lib.hid hnn
          obtain ⟨p1, p2, p3, p4, p5, p6, p7, p8, p9, pf⟩ := HW6.out
          clear hwv hnn
          go_wp2
          go_step3
          refine ⟨rfl, ?_⟩
          go_wp2
          rw [Exit.noGoto_ret]
          have e1 : readOp s = OpN.only 0 := by unfold readOp; rw [HNN.out]; rfl
          have e2 : readErr s = 186 := by unfold readErr; rw [HNN.out]; rfl
          refine opRead_ends (readOp s) (readErr s) rfl (by rw [e2]; rfl) (by rw [e1]; exact HW6.out.stored (OpN.only 0)) ?_ (by omega) ((stored_keeps w6 w.heap.size (OpN.only 0)).same _ _ K6.out rfl)
          exact stored_below hB6.out (OpN.only 0)
        | true =>
          have hst2 := HST.out
          rw [hwv] at hst2
          have HS2 : Hid (numsTo (opNames k) (splitSp s.data.toList) (j + 1) (OpN.only k) = some (o.set n v)) := Lib.hid hst2
          clear hwv hst2
          go_wp2
          refine wp_region_noPanic ?_
          refine wp_region_held_drew (S := fun A => A.cell? ⟨bX, 0, none⟩ = some (.pointer (some ⟨b, 0, none⟩))) (by kernel_rfl) (by simpa using px6) (fun hHeld => ?_)
          (refine wpAnyH_take (i := 1) (oi := ?oiw1) (v := ?vw1) ?hiw1 ?hsw1 ?hfw1 ?hrw1 ?hQw1 ?hyw1 ?hSw1 ?hw1)
          (case hiw1 => rfl)
          (case hsw1 => kernel_rfl)
          (case hfw1 => kernel_rfl)
          (case hrw1 => kernel_rfl)
          (case hQw1 => first | exact fun _ _ _ h => h | exact fun _ _ _ h => (nomatch h.1))
          (case hSw1 => assumption)
          (case hyw1 => (refine Or.inl ⟨by rfl, ?_⟩; intro W hW; skip; go_simp; try with_reducible rfl))
          (try simp only [List.getElem_toArray, List.getElem_cons_succ, List.getElem_cons_zero, Act.put, List.setIfInBounds_toArray, List.set_cons_zero, List.set_cons_succ])
          (refine wpAnyH_take (i := 3) (oi := ?oiw3) (v := ?vw3) ?hiw3 ?hsw3 ?hfw3 ?hrw3 ?hQw3 ?hyw3 ?hSw3 ?hw3)
          (case hiw3 => rfl)
          (case hsw3 => kernel_rfl)
          (case hfw3 => kernel_rfl)
          (case hrw3 => kernel_rfl)
          (case hQw3 => first | exact fun _ _ _ h => h | exact fun _ _ _ h => (nomatch h.1))
          (case hSw3 => assumption)
          (case hyw3 => (refine Or.inl ⟨by rfl, ?_⟩; intro W hW; skip; go_simp; try with_reducible rfl))
          (try simp only [List.getElem_toArray, List.getElem_cons_succ, List.getElem_cons_zero, Act.put, List.setIfInBounds_toArray, List.set_cons_zero, List.set_cons_succ])
          (refine wpAnyH_take (i := 4) (oi := ?oiw4) (v := ?vw4) ?hiw4 ?hsw4 ?hfw4 ?hrw4 ?hQw4 ?hyw4 ?hSw4 ?hw4)
          (case hiw4 => rfl)
          (case hsw4 => kernel_rfl)
          (case hfw4 => kernel_rfl)
          (case hrw4 => kernel_rfl)
          (case hQw4 => first | exact fun _ _ _ h => h | exact fun _ _ _ h => (nomatch h.1))
          (case hSw4 => assumption)
          (case hyw4 => (refine Or.inl ⟨by rfl, ?_⟩; intro W hW; skip; go_simp; try with_reducible rfl))
          (try simp only [List.getElem_toArray, List.getElem_cons_succ, List.getElem_cons_zero, Act.put, List.setIfInBounds_toArray, List.set_cons_zero, List.set_cons_succ])
          refine wpAnyH_ready (rs := [0]) (by kernel_rfl) (by simp) ?_
          refine AllReadyH.cons rfl (fun K hK => ?_) (AllReadyH.nil)
          go_simp
          refine (parts_calls _).mono ?_
          rintro e7 w7 ⟨rfl, hb7⟩
          have R7 := Lib.hid ((R6.out.below (Below.refl _ _).drew).below hb7)
          have S7 := Lib.hid (S6.out.drew.below hb7)
          have K7 := Lib.hid ((hb7.block _ (Array.getElem?_eq_some_iff.1 K6.out).1).trans K6.out)
          have O7 := R7.out.op
          have px7 : w7.cell? ⟨bX, 0, none⟩ = _ := Boxed.cell R7.out.px
          refine hK.out _ _ ?_ (fun hHeld => ?_)
          · exact px7
          clear hK K
          (try simp only [List.getElem_toArray, List.getElem_cons_succ, List.getElem_cons_zero, Act.put, List.setIfInBounds_toArray, List.set_cons_zero, List.set_cons_succ])
          (refine wpAnyH_take (i := 2) (oi := ?oiy2) (v := ?vy2) ?hiy2 ?hsy2 ?hfy2 ?hry2 ?hQy2 ?hyy2 ?hSy2 ?hy2)
          (case hiy2 => rfl)
          (case hsy2 => kernel_rfl)
          (case hfy2 => kernel_rfl)
          (case hry2 => kernel_rfl)
          (case hQy2 => first | exact fun _ _ _ h => h | exact fun _ _ _ h => (nomatch h.1))
          (case hSy2 => assumption)
          (case hyy2 => (refine Or.inl ⟨by rfl, ?_⟩; intro W hW; skip; go_simp; try with_reducible rfl))
          (try simp only [List.getElem_toArray, List.getElem_cons_succ, List.getElem_cons_zero, Act.put, List.setIfInBounds_toArray, List.set_cons_zero, List.set_cons_succ])
          refine wpAnyH_ready (rs := [5]) (by kernel_rfl) (by simp) ?_
          refine AllReadyH.cons rfl (fun K hK => ?_) (AllReadyH.nil)
          go_simp
          refine (partSet_calls n hn6 b _ v _ O7.lt (O7.at n hn6) (O7.fz _)).mono ?_
          rintro e8 w8 ⟨rfl, y8, rfl⟩
          have nbX : b ≠ bX := by omega
          have R8 : RdI W1 b bX bM (o.set n v) (.slice (some ⟨nb, off, none⟩) (opNames k).length (opNames k).length) ((w7.setCell ⟨b, n + 1, none⟩ (.int .i64 v)).alloc y8) :=
            (R7.out.put n hn6 v (by omega) (by omega)).below ((Below.refl _ _).alloc (Nat.le_refl _) _)
          refine hK.out _ _ ?_ (fun hHeld => ?_)
          · exact Boxed.cell R8.px
          clear hK K
          (try simp only [List.getElem_toArray, List.getElem_cons_succ, List.getElem_cons_zero, Act.put, List.setIfInBounds_toArray, List.set_cons_zero, List.set_cons_succ])
          refine wpAnyH_done (by kernel_rfl) ?_ _
          refine NoPanic.normal ?_
          have S8 := (S7.out.setCell ⟨b, n + 1, none⟩ (.int .i64 v) (fun y hy => by have := HE.out.2.1 y hy; show y.block ≠ b; omega)).alloc y8
          have K8 : ((w7.setCell ⟨b, n + 1, none⟩ (.int .i64 v)).alloc y8).heap[D]? = some (.deferred (some [])) := (Below.heap_alloc _ _ _ (by rw [World.size_setCell]; exact (Array.getElem?_eq_some_iff.1 K7.out).1)).trans ((KeepsOthers.setCell _ _ _).same _ _ K7.out rfl)
          clear R7 S7 K7 O7 px7 O6 hb7 hHeld
          go_wp2
          go_roundw
          case rel => exact ⟨j + 1, o.set n v, by omega, by go_num, HS2, R8, S8, K8⟩
          case measure => simp [intOf]; omega
      · obtain rfl : j = (opNames k).length := by omega
        obtain ⟨q1, q2, q3, q4, q5, q6, q7, q8, q9, qf⟩ := HR.out.op
        obtain ⟨p1, p2, p3, p4, p5, p6, p7, p8, p9, pf⟩ := HOW.out
        clear hsl hPs hlt
        go_wp2
        simp only [Exit.jump]
        have hro : readO (splitSp s.data.toList) = some o := HRO.out.trans hnum.out
        have e1 : readOp s = o := by unfold readOp; rw [hro]; rfl
        have e2 : readErr s = 0 := by unfold readErr; rw [hro]; rfl
        refine opRead_ends (readOp s) (readErr s) rfl (by rw [e2]; rfl) (by rw [e1]; exact HOW.out.stored o) ?_ (by omega) ((stored_keeps wr w.heap.size o).same _ _ HKR.out rfl)
        exact stored_below HBW.out o

end Go.Proofs.YtlohfcinffaagaaDoor
