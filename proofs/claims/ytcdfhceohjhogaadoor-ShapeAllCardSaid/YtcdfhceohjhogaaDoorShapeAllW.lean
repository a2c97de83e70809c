/- The statement ShapeAll, as a walk: the fields of a shape, one by one, which one may leave. -/
import Derived.Test.YtcdfhceohjhogaaDoorLaw03
import Derived.Deep.RegionHeld3
namespace Go.Proofs.YtcdfhceohjhogaaDoor
open Go.RowKit Go.Shelf
set_option linter.unusedVariables false
set_option linter.unusedSimpArgs false
attribute [local go_sem] Oper.semAt_some

theorem ownFrom_grown {β : Type} {w : World} {L : Nat} : OwnFrom w.heap.size (fun (_ : β) W => w.grownBy W (some L)) := by
  intro s A B row h hg hr
  refine ⟨hg.os.trans h.os, hg.tape.trans h.tape, hg.output.trans h.output, Nat.le_trans h.size hg.size, fun k hk hne => ?_⟩
  refine (hg.block k (Nat.lt_of_lt_of_le hk h.size) fun e => ?_).trans (h.block k hk hne)
  have := (hr k e.symm).1
  omega
theorem grown_set {w W : World} {L : Nat} (h : w.grownBy W (some L)) (v : Value) : w.grownBy (W.setCell ⟨L, 0, none⟩ v) (some L) := by
  have hg := grownBy_setCell' W L v
  exact ⟨hg.os.trans h.os, hg.tape.trans h.tape, hg.output.trans h.output, Nat.le_trans h.size hg.size, fun k hk hne => (hg.block k (Nat.lt_of_lt_of_le hk h.size) hne).trans (h.block k hk hne)⟩
theorem grown_refl (w : World) (r : Option Nat) : w.grownBy w r := ⟨rfl, rfl, rfl, Nat.le_refl _, fun _ _ _ => rfl⟩

/-- the law's boxes at its end: the shape, how many, the answer, how many are wanted, were told, were left -/
structure AllEnd (w : World) (bn bl d1 d2 : Nat) (s : ByteArray) (m : Int) (want left : Nat) (W : World) : Prop where
  below : Below w.heap.size w W
  b0 : Boxed W w.heap.size 45 (.string s)
  b1 : Boxed W (w.heap.size + 1) 3 (.int .i64 m)
  b2 : ∃ v, Boxed W (w.heap.size + 2) 4 v
  b4 : Boxed W (w.heap.size + 4) 3 (.int .i64 want)
  bn : Boxed W bn 3 (.int .i64 want)
  bl : Boxed W bl 3 (.int .i64 left)
  d1 : W.heap[d1]? = some (.deferred (some []))
  d2 : W.heap[d2]? = some (.deferred (some []))
theorem AllEnd.call {w : World} {bn bl d1 d2 : Nat} {s : ByteArray} {m : Int} {want left : Nat} {A B : World} (h : AllEnd w bn bl d1 d2 s m want left A) (hb : Below A.heap.size A B) : AllEnd w bn bl d1 d2 s m want left B := by
  have hg := grown_of_below hb
  have k : ∀ (j : Nat) (o : Obj), A.heap[j]? = some o → B.heap[j]? = some o := fun j o hj => (hb.block j (Array.getElem?_eq_some_iff.1 hj).1).trans hj
  obtain ⟨v, hv⟩ := h.b2
  exact ⟨Below.then h.below hb h.below.size, k _ _ h.b0, k _ _ h.b1, ⟨v, k _ _ hv⟩, k _ _ h.b4, k _ _ h.bn, k _ _ h.bl, k _ _ h.d1, k _ _ h.d2⟩

theorem AllEnd.drew {w : World} {bn bl d1 d2 : Nat} {s : ByteArray} {m : Int} {want left : Nat} {A : World} (h : AllEnd w bn bl d1 d2 s m want left A) : AllEnd w bn bl d1 d2 s m want left A.drew := h.call (Below.refl _ _).drew
theorem AllEnd.ends {w : World} {bn bl d1 d2 : Nat} {s : ByteArray} {m : Int} {want left : Nat} {A : World} (h : AllEnd w bn bl d1 d2 s m want left A) :
    AllEnd w bn bl d1 d2 s m want left A ∧ A.cell? ⟨w.heap.size, 0, none⟩ = some (.string s) ∧ A.cell? ⟨w.heap.size + 1, 0, none⟩ = some (.int .i64 m) ∧ A.cell? ⟨w.heap.size + 1 + 1 + 1 + 1, 0, none⟩ = some (.int .i64 want) ∧ A.cell? ⟨bn, 0, none⟩ = some (.int .i64 want) ∧ A.cell? ⟨bl, 0, none⟩ = some (.int .i64 left) :=
  ⟨h, h.b0.cell, h.b1.cell, h.b4.cell, h.bn.cell, h.bl.cell⟩
theorem AllEnd.store {w : World} {bn bl d1 d2 : Nat} {s : ByteArray} {m : Int} {want left : Nat} {A : World} (h : AllEnd w bn bl d1 d2 s m want left A) (hn : w.heap.size + 4 < bn) (hl : w.heap.size + 4 < bl) (v : Value) : AllEnd w bn bl d1 d2 s m want left (A.setCell ⟨w.heap.size + 1 + 1, 0, none⟩ v) := by
  have hg := grownBy_setCell' A (w.heap.size + 1 + 1) v
  obtain ⟨v2, hv2⟩ := h.b2
  have hd1 : d1 ≠ w.heap.size + 1 + 1 := by rintro rfl; have := h.d1; rw [show A.heap[w.heap.size + 1 + 1]? = _ from hv2] at this; cases this
  have hd2 : d2 ≠ w.heap.size + 1 + 1 := by rintro rfl; have := h.d2; rw [show A.heap[w.heap.size + 1 + 1]? = _ from hv2] at this; cases this
  exact ⟨h.below.setCell (p := ⟨w.heap.size + 1 + 1, 0, none⟩) (by simp; omega) v, h.b0.kept hg (by simp; omega), h.b1.kept hg (by simp), ⟨v, hv2.set v⟩, h.b4.kept hg (by simp), h.bn.kept hg (by simp; omega), h.bl.kept hg (by simp; omega), (hg.block d1 (Array.getElem?_eq_some_iff.1 h.d1).1 (by simpa using hd1)).trans h.d1, (hg.block d2 (Array.getElem?_eq_some_iff.1 h.d2).1 (by simpa using hd2)).trans h.d2⟩
theorem all_ends {w V : World} {tmps : Array Value} {D D2 : Nat} (hp : tmps.getD 4 undef = .pointer (some ⟨w.heap.size + 1 + 1, 0, none⟩)) (hv : Boxed V (w.heap.size + 1 + 1) 4 (.bool true)) (hb : Below w.heap.size w V)
    (h2 : V.heap[D2]? = some (.deferred (some []))) (h1 : V.heap[D]? = some (.deferred (some []))) (hne : D ≠ D2) (hlo : w.heap.size ≤ D) (hlo2 : w.heap.size ≤ D2) :
    LeavesInM Fence.wide 5 Tryd.prog Tryd.f10 tmps (fun e w' => e = .returned (.bool true) ∧ Below w.heap.size w w') [{ target := .collected D2, args := #[] }, { target := .collected D, args := #[] }] .returning V := by
  rw [Array.getD_eq_getD_getElem?] at hp
  have hd1 : w.heap.size + 1 + 1 ≠ D := by rintro rfl; rw [show V.heap[w.heap.size + 1 + 1]? = _ from hv] at h1; cases h1
  have hd2 : w.heap.size + 1 + 1 ≠ D2 := by rintro rfl; rw [show V.heap[w.heap.size + 1 + 1]? = _ from hv] at h2; cases h2
  have hv2 := hv.kept (grownBy_putObj' V D2 (.deferred none)) (by simpa using hd2)
  have hb2 : Below w.heap.size w (V.putObj D2 (.deferred none)) := hb.trans (belowK_b (w := w) (Nat.le_refl _) V D2 _ _ hlo2 h2 rfl rfl)
  have h1' : (V.putObj D2 (.deferred none)).heap[D]? = some (.deferred (some [])) := (World.putObj_heap_other hne).trans h1
  refine ⟨by simp, .inl ⟨_, _, rfl, run_takeDeferred h2, ?_⟩⟩
  obtain ⟨V2, hV2⟩ : ∃ V2, V.putObj D2 (.deferred none) = V2 := ⟨_, rfl⟩
  rw [hV2] at hv2 hb2 h1' ⊢
  have hv3 := (hv2.kept (grownBy_putObj' V2 D (.deferred none)) (by simpa using hd1)).cell
  have hb3 : Below w.heap.size w (V2.putObj D (.deferred none)) := hb2.trans (belowK_b (w := w) (Nat.le_refl _) V2 D _ _ hlo h1' rfl rfl)
  refine ⟨by simp, .inl ⟨_, _, rfl, run_takeDeferred h1', ?_⟩⟩
  obtain ⟨V3, hV3⟩ : ∃ V3, V2.putObj D (.deferred none) = V3 := ⟨_, rfl⟩
  rw [hV3] at hv3 hb3 ⊢
  exact ⟨_, (by simp [results, Tryd.results10, hp, go_sem, hv3] : _ = Result.ok (.bool true) V3), rfl, hb3⟩
theorem num03_calls (x : Int) (w : World) : Calls Tryd.prog 34 #[.int .i64 x] w fun e w' => e = .returned (.int .i64 x) ∧ w = w' := by
  go_enter Tryd.func34, Tryd.ntmps34
  go_wp2
  go_ret
  exact ⟨rfl, rfl⟩
theorem prefix_last {α : Type} {pre l : List α} {x : α} (h : pre ++ [x] <+: l) : l[pre.length]? = some x := by
  obtain ⟨r, rfl⟩ := h
  simp
theorem ownFrom_box {β : Type} {W0 : World} {L : Nat} (hL : L < W0.heap.size) (p : β → Prop) (t : TypeId) (v : β → Value) : OwnFrom W0.heap.size (fun b W => p b ∧ Boxed W L t (v b) ∧ W0.grownBy W (some L)) := by
  rintro b A B row ⟨h1, h2, h3⟩ hg hr
  exact ⟨h1, h2.kept hg (fun e => by have := (hr L e.symm).1; omega), ownFrom_grown (β := β) b A B row h3 hg hr⟩
theorem func_nil (W : World) (x : Value) : (binOp .eql 69 (.func (.func 60) #[] #[x]) Value.nilFunc).run Tryd.prog W = .ok (.bool false) W := by
  have h : (Op.equalIn (9999 + 1) 69 (.func (.func 60) #[] #[x]) Value.nilFunc).run Tryd.prog W = .ok false W := by
    unfold Op.equalIn
    simp [run_underlying Tryd.underlying69]
  have h' : (Op.equal 69 (.func (.func 60) #[] #[x]) Value.nilFunc).run Tryd.prog W = .ok false W := h
  simp [binOp, go_sem, h']

set_option maxRecDepth 10000000 in
set_option maxHeartbeats 6400000 in
theorem shapeAll_walk (w : World) (s : ByteArray) (hs : s.size ≤ maxLen) (m : Int) (_wm : (Lit.int .i64 m).wf = true) :
    Calls Tryd.prog 10 #[.string s, .int .i64 m] w fun e w' => e = .returned (.bool true) ∧ Below w.heap.size w w' := by
  have HW := Lib.hid works03_calls
  unfold maxLen at hs
  by_cases h20 : 20 < s.size
  · go_enter Tryd.func10, Tryd.ntmps10
    go_wp2_with fail
    refine (HW.out _).mono ?_; rintro e1 w1 ⟨rfl, hb1⟩; obtain ⟨hc1, hf1⟩ := bcell hb1; have hz1 := hb1.size; (try simp at hz1)
    have q2 := hc1 (w.heap.size + 2) 0 (by first | omega | (simp; done) | (simp; omega)); simp [go_sem] at q2
    have f2 := hf1 (w.heap.size + 2) 0 (by first | omega | (simp; done) | (simp; omega)); simp [go_sem] at f2
    go_wp2
    exact bodyPost_ret (v := .bool true) (by simp [results, Tryd.results10, go_sem, q2, f2, cell_put]) rfl ⟨rfl, by (repeat (first | exact Below.refl _ _ | (with_reducible assumption) | refine Below.drew ?_ | refine Below.drewN' ?_ _ | refine Below.alloc ?_ (by first | omega | (simp; done) | (simp; omega)) _ | refine Below.setCell ?_ (by first | omega | (simp; done) | (simp; omega)) _ | refine Below.then ?_ hb9 (by first | omega | (simp; done) | (simp; omega)) | refine Below.then ?_ hb8 (by first | omega | (simp; done) | (simp; omega)) | refine Below.then ?_ hb7 (by first | omega | (simp; done) | (simp; omega)) | refine Below.then ?_ hb6 (by first | omega | (simp; done) | (simp; omega)) | refine Below.then ?_ hb5 (by first | omega | (simp; done) | (simp; omega)) | refine Below.then ?_ hb4 (by first | omega | (simp; done) | (simp; omega)) | refine Below.then ?_ hb3 (by first | omega | (simp; done) | (simp; omega)) | refine Below.then ?_ hb2 (by first | omega | (simp; done) | (simp; omega)) | refine Below.then ?_ hb1 (by first | omega | (simp; done) | (simp; omega))))⟩
  · have h1 := fun w => refOne_calls s (by unfold maxLen; omega) w
    have h2 := fun x c w h => shSize_calls x c [s] 0 (by simp [maxLen]) w h
    cases hb : shapeB s with
    | true =>
      have hF : fieldsOf s = fieldsTo s s.size := by unfold fieldsOf; rw [if_pos hb]
      have hlen : (fieldsOf s).length = s.size := fieldsOf_size hb
      have hT : tableB [s] = true := by simp [tableB, hb]
      have e1 : ofE [s] 0 = 0 := ofE_in hT (by decide) (by simp)
      have e2 : sizeN [s] 0 = 2 + s.size := by unfold sizeN; rw [if_pos e1]; simp
      rw [e1, e2] at h2
      rw [hb] at h1
      have H1 := Lib.hid h1
      have H2 := Lib.hid h2
      have hs8 := shape_size hb
      clear h1 h2 e1 e2 hT
      refine (callsIn_wide (n := 5)).1 ?_
      refine callsIn_of_wp_marks Tryd.func10 rfl trivial ?_ rfl
      simp only [Tryd.ntmps10, List.size_toArray, List.length_cons, List.length_nil, Nat.reduceAdd, Nat.reduceSub, Array.replicate_succ, Array.replicate_zero, List.push_toArray, List.append_toArray, List.nil_append, List.cons_append]
      gi_wp2_with fail
      refine ⟨trivial, (callsIn_wide.2 (all_calls s _)).mono ?_⟩
      rintro e w1 ⟨rfl, rfl⟩
      have hnil := fun W => func_nil W (.pointer (some ⟨w.heap.size + 1 + 1 + 1, 0, none⟩))
      gi_wp2_with fail
      refine ⟨trivial, (callsIn_wide.2 (H1.out _)).mono ?_⟩; rintro e2 w2 ⟨rfl, hb2⟩; have hz2 := hb2.size; (try simp at hz2)
      clear hnil
      obtain ⟨hc2, hf2⟩ := bcell hb2
      have q0 := hc2 w.heap.size 0 (by first | omega | (simp; done) | (simp; omega)); simp [go_sem] at q0
      have q4 := hc2 (w.heap.size + 4) 0 (by first | omega | (simp; done) | (simp; omega)); simp [go_sem] at q4
      have f4 := hf2 (w.heap.size + 4) 0 (by first | omega | (simp; done) | (simp; omega)); simp [go_sem] at f4
      have l2 : (w.heap.size + 4) < w2.heap.size := by first | omega | (simp; done) | (simp; omega)
      gi_wp2
      have b0 : Boxed w2 w.heap.size 45 (.string s) := ((((((Boxed.new w 45 (.string s)).alloc _).alloc _).alloc _).alloc _)).kept (grown_of_below hb2) (by simp)
      have b1 : Boxed w2 (w.heap.size + 1) 3 (.int .i64 m) := by
        have := Boxed.new (w.alloc (.cells #[.string s] 45)) 3 (.int .i64 m)
        simp only [World.size_alloc] at this
        exact (((this.alloc _).alloc _).alloc _).kept (grown_of_below hb2) (by simp)
      have b2 : Boxed w2 (w.heap.size + 1 + 1) 4 (.bool false) := by
        have := Boxed.new ((w.alloc (.cells #[.string s] 45)).alloc (.cells #[.int .i64 m] 3)) 4 (.bool false)
        simp only [World.size_alloc] at this
        exact ((this.alloc _).alloc _).kept (grown_of_below hb2) (by simp)
      have b3 : Boxed w2 (w.heap.size + 1 + 1 + 1) 45 (.string s) := by
        have := Boxed.new (((w.alloc (.cells #[.string s] 45)).alloc (.cells #[.int .i64 m] 3)).alloc (.cells #[.bool false] 4)) 45 (.string s)
        simp only [World.size_alloc] at this
        exact (this.alloc _).kept (grown_of_below hb2) (by simp)
      have b4 : Boxed w2 (w.heap.size + 1 + 1 + 1 + 1) 3 (.int .i64 0) := by
        have := Boxed.new ((((w.alloc (.cells #[.string s] 45)).alloc (.cells #[.int .i64 m] 3)).alloc (.cells #[.bool false] 4)).alloc (.cells #[.string s] 45)) 3 (.int .i64 0)
        simp only [World.size_alloc] at this
        exact this.kept (grown_of_below hb2) (by simp)
      obtain ⟨W0, hW0⟩ : ∃ W0, (w2.setCell ⟨w.heap.size + 1 + 1 + 1 + 1, 0, none⟩ (.int .i64 s.size)).alloc (.cells #[.int .i64 0] 3) = W0 := ⟨_, rfl⟩
      have c0 : Boxed W0 w.heap.size 45 (.string s) := by rw [← hW0]; exact (b0.kept (grownBy_setCell' w2 _ _) (by simp; omega)).alloc _
      have c1 : Boxed W0 (w.heap.size + 1) 3 (.int .i64 m) := by rw [← hW0]; exact (b1.kept (grownBy_setCell' w2 _ _) (by simp)).alloc _
      have c2 : Boxed W0 (w.heap.size + 1 + 1) 4 (.bool false) := by rw [← hW0]; exact (b2.kept (grownBy_setCell' w2 _ _) (by simp)).alloc _
      have c3 : Boxed W0 (w.heap.size + 1 + 1 + 1) 45 (.string s) := by rw [← hW0]; exact (b3.kept (grownBy_setCell' w2 _ _) (by simp)).alloc _
      have c4 : Boxed W0 (w.heap.size + 1 + 1 + 1 + 1) 3 (.int .i64 s.size) := by rw [← hW0]; exact (b4.set _).alloc _
      have cn : Boxed W0 w2.heap.size 3 (.int .i64 0) := by
        rw [← hW0]
        have := Boxed.new (w2.setCell ⟨w.heap.size + 1 + 1 + 1 + 1, 0, none⟩ (.int .i64 s.size)) 3 (.int .i64 0)
        simpa using this
      have hz0 : W0.heap.size = w2.heap.size + 1 := by rw [← hW0]; simp
      have hbW : Below w.heap.size w W0 := by rw [← hW0]; (repeat (first | exact Below.refl _ _ | (with_reducible assumption) | refine Below.drew ?_ | refine Below.drewN' ?_ _ | refine Below.alloc ?_ (by first | omega | (simp; done) | (simp; omega)) _ | refine Below.setCell ?_ (by first | omega | (simp; done) | (simp; omega)) _ | refine Below.then ?_ hb9 (by first | omega | (simp; done) | (simp; omega)) | refine Below.then ?_ hb8 (by first | omega | (simp; done) | (simp; omega)) | refine Below.then ?_ hb7 (by first | omega | (simp; done) | (simp; omega)) | refine Below.then ?_ hb6 (by first | omega | (simp; done) | (simp; omega)) | refine Below.then ?_ hb5 (by first | omega | (simp; done) | (simp; omega)) | refine Below.then ?_ hb4 (by first | omega | (simp; done) | (simp; omega)) | refine Below.then ?_ hb3 (by first | omega | (simp; done) | (simp; omega)) | refine Below.then ?_ hb2 (by first | omega | (simp; done) | (simp; omega)) | refine Below.then ?_ hb1 (by first | omega | (simp; done) | (simp; omega))))
      rw [hW0]
      clear hW0 b0 b1 b2 b3 b4 q0 q4 f4 hc2 hf2 hb2
      refine wpIn_rangeFunc_ownF rfl (by omega) (gf := 60) (lb := #[.pointer (some ⟨w.heap.size + 1 + 1 + 1, 0, none⟩)]) rfl trivial (enters_of Tryd.func60 (by kernel_rfl) rfl)
        (seqStopsA_iff.1 (all_stops 4 (by omega) s (w.heap.size + 1 + 1 + 1) W0 (by omega) c3.cell)) walksK_t walksK_b (Below.refl _ _) (fun _ => rfl)
        (fun pre W => pre = fieldsTo s pre.length ∧ Boxed W w2.heap.size 3 (.int .i64 pre.length) ∧ W0.grownBy W (some w2.heap.size))
        (fun c pre W => c = .ret ∧ ¬ pre <+: fieldsOf s) (ownFrom_box (by omega) _ _ _) (fun _ _ _ _ _ hs _ _ => hs) ⟨rfl, cn, grown_refl _ _⟩
        (fun x => { tmps := #[.string s, .int .i64 m, .pointer (some ⟨w.heap.size, 0, none⟩), .pointer (some ⟨w.heap.size + 1, 0, none⟩), .pointer (some ⟨w.heap.size + 1 + 1, 0, none⟩), .func (.func 60) #[] #[.pointer (some ⟨w.heap.size + 1 + 1 + 1, 0, none⟩)], .pointer (some ⟨w.heap.size + 1 + 1 + 1 + 1, 0, none⟩), .pointer (some ⟨w2.heap.size, 0, none⟩), .int .i64 x.1, .int .i64 x.2, undef, undef, undef, .string s, .int .i64 s.size, .bool (decide (20 < (s.size : Int))), undef, .string s, .func (.func 60) #[] #[.pointer (some ⟨w.heap.size + 1 + 1 + 1, 0, none⟩)], .func (.func 60) #[] #[.pointer (some ⟨w.heap.size + 1 + 1 + 1, 0, none⟩)], .bool false, .string s, .bool true, .string s, .int .i64 s.size, .func (.func 60) #[] #[.pointer (some ⟨w.heap.size + 1 + 1 + 1, 0, none⟩)], .int .i64 x.1, .int .i64 x.2, undef, undef, undef, undef, undef, undef, undef, undef, undef, undef, undef, undef, undef, undef, undef, undef, undef, undef, undef, undef, undef, undef, undef, undef, undef, undef, undef, undef, undef, undef, undef, undef, undef, undef, undef, undef, undef, undef, undef, undef, undef, undef, undef, undef, undef, undef, undef, undef, undef, undef, undef, undef, undef, undef, undef, undef, undef, undef, undef, undef, undef, undef, undef, undef, undef, undef, undef, undef, undef, undef, undef, undef, undef, undef], defers := [] }) ?assign ?body ?done ?stop
      case assign =>
        intro l x W K hK
        gi_wp2
        have e : (#[26, 27] : Array Tmp).zip (fieldEnc x) = #[(26, .int .i64 x.1), (27, .int .i64 x.2)] := by unfold fieldEnc; first | (simp; done) | kernel_rfl
        rw [e]
        exact hK
      case body =>
        rintro l pre ⟨xi, xk⟩ W ⟨hpre, hbn, hgr⟩ hlt
        rw [hlen] at hlt
        have d0 : W.cell? ⟨w.heap.size, 0, none⟩ = some (.string s) := Boxed.cell (c0.kept hgr (by simp; omega))
        have d4 : W.cell? ⟨w.heap.size + 1 + 1 + 1 + 1, 0, none⟩ = some (.int .i64 s.size) := Boxed.cell (c4.kept hgr (by simp; omega))
        have d2 := Boxed.cell (c2.kept hgr (by simp; omega))
        have g2 := Boxed.frozen (c2.kept hgr (by simp; omega))
        have dn := hbn.cell
        have gn := hbn.frozen
        by_cases hi : xi = pre.length
        · subst hi
          have hlk : s[pre.length] = 115 ∨ s[pre.length] = 112 := by
            have := shape_letter hb pre.length hlt
            have : s[pre.length] = 112 ∨ s[pre.length] = 115 := by simpa [letterOk] using this
            exact this.symm
          have hby0 := byteAt_get s pre.length hlt
          rcases hlk with hlk | hlk
          · have hby : byteAt s pre.length = 115 := by rw [hby0, hlk]; rfl
            rw [hlk] at hby0
            have hcb : ((s[pre.length].toNat : Nat) : Int) = 115 := by rw [hlk]; rfl
            clear hby0
            by_cases hxk : xk = 1
            · subst hxk
              have hnx : pre ++ [((pre.length : Int), (1 : Int))] = fieldsTo s (pre ++ [((pre.length : Int), (1 : Int))]).length := by
                rw [List.length_append, List.length_singleton, fieldsTo_succ, ← hpre, fieldAt, hby]
                simp [letterK]
              have HN := Lib.hid hnx
              clear hnx hpre hby
              gi_wp2
              exact ⟨KeepsOthers.setCell _ _ _, KeepsWalks.setCell _ _ _, HN.out, by simpa using hbn.set (.int .i64 ((pre.length : Int) + 1)), grown_set hgr _⟩
            · have hk1 : (xk == 1) = false := by rw [beq_eq_false_iff_ne]; exact hxk
              have hbad : ¬ pre ++ [((pre.length : Int), xk)] <+: fieldsOf s := by
                intro h
                have h' := prefix_last h
                rw [hF] at h'
                simp [fieldsTo, fieldAt, hlt, hby, letterK] at h'
                omega
              have HB := Lib.hid hbad
              clear hbad hpre hby
              gi_wp2
              exact ⟨KeepsOthers.setCell _ _ _, rfl, HB.out⟩
          · have hby : byteAt s pre.length = 112 := by rw [hby0, hlk]; rfl
            rw [hlk] at hby0
            have hcb : ((s[pre.length].toNat : Nat) : Int) = 112 := by rw [hlk]; rfl
            clear hby0
            by_cases hxk : xk = 1
            · subst hxk
              have hbad : ¬ pre ++ [((pre.length : Int), (1 : Int))] <+: fieldsOf s := by
                intro h
                have h' := prefix_last h
                rw [hF] at h'
                simp [fieldsTo, fieldAt, hlt, hby, letterK] at h'
              have HB := Lib.hid hbad
              clear hbad hpre hby
              gi_wp2
              exact ⟨KeepsOthers.setCell _ _ _, rfl, HB.out⟩
            · have hk1 : (xk == 1) = false := by rw [beq_eq_false_iff_ne]; exact hxk
              have hk2 : (xk != 1) = true := by rw [bne, hk1]; rfl
              by_cases hx0 : xk = 0
              · subst hx0
                have hnx : pre ++ [((pre.length : Int), (0 : Int))] = fieldsTo s (pre ++ [((pre.length : Int), (0 : Int))]).length := by
                  rw [List.length_append, List.length_singleton, fieldsTo_succ, ← hpre, fieldAt, hby]
                  simp [letterK]
                have HN := Lib.hid hnx
                clear hnx hpre hby
                gi_wp2
                exact ⟨KeepsOthers.setCell _ _ _, KeepsWalks.setCell _ _ _, HN.out, by simpa using hbn.set (.int .i64 ((pre.length : Int) + 1)), grown_set hgr _⟩
              · have hk3 : (xk == 0) = false := by rw [beq_eq_false_iff_ne]; exact hx0
                have hk4 : (xk != 0) = true := by rw [bne, hk3]; rfl
                have hbad : ¬ pre ++ [((pre.length : Int), xk)] <+: fieldsOf s := by
                  intro h
                  have h' := prefix_last h
                  rw [hF] at h'
                  simp [fieldsTo, fieldAt, hlt, hby, letterK] at h'
                  omega
                have HB := Lib.hid hbad
                clear hbad hpre hby
                gi_wp2
                exact ⟨KeepsOthers.setCell _ _ _, rfl, HB.out⟩
        · have hne : (xi == (pre.length : Int)) = false := by rw [beq_eq_false_iff_ne]; exact hi
          have hne' : (xi != (pre.length : Int)) = true := by rw [bne, hne]; rfl
          have hbad : ¬ pre ++ [(xi, xk)] <+: fieldsOf s := by
            intro h
            have h' := prefix_last h
            rw [hF] at h'
            simp [fieldsTo, fieldAt, hlt] at h'
            exact hi h'.1.symm
          have HB := Lib.hid hbad
          clear hbad hi hpre
          gi_wp2
          exact ⟨KeepsOthers.setCell _ _ _, rfl, HB.out⟩
      case done =>
        rintro D xs W hD hxs ⟨hpre, hbn, hgr⟩ hK
        have hxl : xs.length = s.size := by rw [hxs]; exact hlen
        rw [hxl] at hbn
        clear hpre hxs
        have hz1 := hgr.size
        have a0 := c0.kept hgr (by simp; omega)
        have a1 := c1.kept hgr (by simp; omega)
        have a2 := c2.kept hgr (by simp; omega)
        have a3 := c3.kept hgr (by simp; omega)
        have a4 := c4.kept hgr (by simp; omega)
        have hbW1 : Below w.heap.size w W := hbW.grown hgr (by have := hbW.size; omega) (fun j ej => by cases ej; omega)
        gi_wp2
        obtain ⟨V0, hV0⟩ : ∃ V0, W.alloc (.cells #[.int .i64 0] 3) = V0 := ⟨_, rfl⟩
        have e0 : Boxed V0 w.heap.size 45 (.string s) := by rw [← hV0]; exact a0.alloc _
        have e1 : Boxed V0 (w.heap.size + 1) 3 (.int .i64 m) := by rw [← hV0]; exact a1.alloc _
        have e2 : Boxed V0 (w.heap.size + 1 + 1) 4 (.bool false) := by rw [← hV0]; exact a2.alloc _
        have e3 : Boxed V0 (w.heap.size + 1 + 1 + 1) 45 (.string s) := by rw [← hV0]; exact a3.alloc _
        have e4 : Boxed V0 (w.heap.size + 1 + 1 + 1 + 1) 3 (.int .i64 s.size) := by rw [← hV0]; exact a4.alloc _
        have en : Boxed V0 w2.heap.size 3 (.int .i64 s.size) := by rw [← hV0]; exact hbn.alloc _
        have el : Boxed V0 W.heap.size 3 (.int .i64 0) := by rw [← hV0]; exact Boxed.new _ _ _
        have hDlt : D < W.heap.size := (Array.getElem?_eq_some_iff.1 hK).1
        have hK0 : V0.heap[D]? = some (.deferred (some [])) := by rw [← hV0]; exact (Below.heap_alloc W _ D hDlt).trans hK
        have hzV : V0.heap.size = W.heap.size + 1 := by rw [← hV0]; simp
        have hbV : Below w.heap.size w V0 := by rw [← hV0]; exact hbW1.alloc (by have := hbW1.size; omega) _
        rw [hV0]
        clear hV0 hbn hgr hK a0 a1 a2 a3 a4 c0 c1 c2 c3 c4 cn
        refine wpIn_rangeFunc_ownF rfl (by omega) (gf := 60) (lb := #[.pointer (some ⟨w.heap.size + 1 + 1 + 1, 0, none⟩)]) rfl trivial (enters_of Tryd.func60 (by kernel_rfl) rfl)
          (seqStopsA_iff.1 (all_stops 4 (by omega) s (w.heap.size + 1 + 1 + 1) V0 (by omega) e3.cell)) walksK_t walksK_b (Below.refl _ _) (fun _ => rfl)
          (fun pre V => (pre.length = 0 ∨ (pre.length : Int) < m) ∧ Boxed V W.heap.size 3 (.int .i64 pre.length) ∧ V0.grownBy V (some W.heap.size))
          (fun c pre V => (c = .exit 2 ∧ 1 ≤ pre.length ∧ m ≤ pre.length ∧ (pre.length = 1 ∨ (pre.length : Int) - 1 < m)) ∧ Boxed V W.heap.size 3 (.int .i64 pre.length) ∧ V0.grownBy V (some W.heap.size))
          (ownFrom_box (by omega) _ _ _) (fun c => ownFrom_box (by omega) _ _ _) ⟨.inl rfl, el, grown_refl _ _⟩
          (fun x => { tmps := #[.string s, .int .i64 m, .pointer (some ⟨w.heap.size, 0, none⟩), .pointer (some ⟨w.heap.size + 1, 0, none⟩), .pointer (some ⟨w.heap.size + 1 + 1, 0, none⟩), .func (.func 60) #[] #[.pointer (some ⟨w.heap.size + 1 + 1 + 1, 0, none⟩)], .pointer (some ⟨w.heap.size + 1 + 1 + 1 + 1, 0, none⟩), .pointer (some ⟨w2.heap.size, 0, none⟩), undef, undef, .pointer (some ⟨W.heap.size, 0, none⟩), undef, undef, .string s, .int .i64 s.size, .bool (decide (20 < (s.size : Int))), undef, .string s, .func (.func 60) #[] #[.pointer (some ⟨w.heap.size + 1 + 1 + 1, 0, none⟩)], .func (.func 60) #[] #[.pointer (some ⟨w.heap.size + 1 + 1 + 1, 0, none⟩)], .bool false, .string s, .bool true, .string s, .int .i64 s.size, .func (.func 60) #[] #[.pointer (some ⟨w.heap.size + 1 + 1 + 1, 0, none⟩)], undef, undef, undef, undef, undef, undef, undef, undef, undef, undef, undef, undef, undef, undef, undef, undef, undef, undef, undef, undef, undef, undef, undef, undef, undef, undef, undef, undef, undef, .func (.func 60) #[] #[.pointer (some ⟨w.heap.size + 1 + 1 + 1, 0, none⟩)], .int .i64 x.1, .int .i64 x.2, undef, undef, undef, undef, undef, undef, undef, undef, undef, undef, undef, undef, undef, undef, undef, undef, undef, undef, undef, undef, undef, undef, undef, undef, undef, undef, undef, undef, undef, undef, undef, undef, undef, undef, undef, undef, undef, undef, undef, undef, undef, undef, undef, undef], defers := [] }) ?assign2 ?body2 ?done2 ?stop2
        case assign2 =>
          intro l x W' K hK'
          gi_wp2
          have e : (#[56, 57] : Array Tmp).zip (fieldEnc x) = #[(56, .int .i64 x.1), (57, .int .i64 x.2)] := by unfold fieldEnc; first | (simp; done) | kernel_rfl
          rw [e]
          exact hK'
        case body2 =>
          rintro l pre x V ⟨hlo, hbl, hgr2⟩ hlt
          have d1 := Boxed.cell (e1.kept hgr2 (by simp; omega))
          have dl := hbl.cell
          have gl := hbl.frozen
          rw [hlen] at hlt
          by_cases hm : m ≤ (pre.length : Int) + 1
          · gi_wp2
            refine ⟨KeepsOthers.setCell _ _ _, ⟨rfl, by simp, by simpa using hm, ?_⟩, by simpa using hbl.set (.int .i64 ((pre.length : Int) + 1)), grown_set hgr2 _⟩
            rcases hlo with h | h
            · exact .inl (by simp [h])
            · exact .inr (by simp; omega)
          · gi_wp2
            exact ⟨KeepsOthers.setCell _ _ _, KeepsWalks.setCell _ _ _, .inr (by simp; omega), by simpa using hbl.set (.int .i64 ((pre.length : Int) + 1)), grown_set hgr2 _⟩
        case done2 =>
          rintro D2 ys V hD2 hys ⟨hlo, hbl, hgr2⟩ hK2
          have hyl : ys.length = s.size := by rw [hys]; exact hlen
          rw [hyl] at hbl hlo
          clear hys
          have hln : w.heap.size + 4 < w2.heap.size := l2
          have hll : w.heap.size + 4 < W.heap.size := by omega
          have hwr : IntKind.i64.wrap (2 + (s.size : Int)) = 2 + s.size := IntWalk.i64_in _ (by omega)
          have hmb : ((s.size : Int) == min (s.size : Int) (max 1 m)) = true := by rw [beq_iff_eq]; omega
          have hz9 := hgr2.size
          have hE : AllEnd w w2.heap.size W.heap.size D D2 s m s.size s.size V := ⟨hbV.grown hgr2 (by have := hbV.size; omega) (fun j ej => by cases ej; omega), e0.kept hgr2 (by simp; omega), e1.kept hgr2 (by simp; omega), ⟨_, e2.kept hgr2 (by simp; omega)⟩, e4.kept hgr2 (by simp; omega), en.kept hgr2 (by simp; omega), hbl, (hgr2.block D (by omega) (by simp; omega)).trans hK0, hK2⟩
          have k0 := hE.b0.cell
          gi_wp2_with fail
          refine ⟨trivial, (callsIn_wide.2 (H2.out _ _ _ (SlOf.new V (strV [s]) 45 (0, 0)))).mono ?_⟩; rintro e5 w5 ⟨rfl, hb5⟩; have hz5 := hb5.size; (try simp at hz5)
          have hE5 := Lib.hid ((hE.call ((Below.refl _ _).alloc (Nat.le_refl _) _)).call hb5).ends
          clear hE k0 e0 e1 e2 e3 e4 en el hbl hgr2 hK2 hK0 hbV hb5 hz5 hbW hbW1
          gi_wp2
          refine wpIn_wide.2 ?_
          have hE5d := Lib.hid (hE5.out.1.drew).ends
          clear hE5 hlo hyl hxl hF hlen hs8 h20 hs
          go_region_held3 (fun A => AllEnd w w2.heap.size W.heap.size D D2 s m s.size s.size A ∧ A.cell? ⟨w.heap.size, 0, none⟩ = some (.string s) ∧ A.cell? ⟨w.heap.size + 1, 0, none⟩ = some (.int .i64 m) ∧ A.cell? ⟨w.heap.size + 1 + 1 + 1 + 1, 0, none⟩ = some (.int .i64 s.size) ∧ A.cell? ⟨w2.heap.size, 0, none⟩ = some (.int .i64 s.size) ∧ A.cell? ⟨W.heap.size, 0, none⟩ = some (.int .i64 s.size)) (first | exact hE5d.out | exact (AllEnd.call (And.left (by assumption)) hb8).ends | exact (AllEnd.call (And.left (by assumption)) hb9).ends | assumption | exact (AllEnd.store (And.left (by assumption)) hln hll _).ends) (first | (go_at_call 34; refine (num03_calls _ _).mono ?_; rintro e7 w7 ⟨rfl, rfl⟩) | (go_at_call 38; refine (H1.out _).mono ?_; rintro e8 w8 ⟨rfl, hb8⟩) | (go_at_call 31; refine (HW.out _).mono ?_; rintro e9 w9 ⟨rfl, hb9⟩; have hE9 := AllEnd.call (And.left (by assumption)) hb9; obtain ⟨v2, hv2⟩ := hE9.b2; have z2 := hv2.cell; have zf2 := hv2.frozen))
          have hE10 := hE9.store hln hll (.bool true)
          have hv3 := hv2.set (.bool true)
          gi_wp2
          exact all_ends rfl hv3 hE10.below hE10.d2 hE10.d1 (by omega) (by omega) (by omega)
        case stop2 =>
          rintro D2 c pre V hD2 hSp ⟨⟨rfl, hp1, hpm, hpl⟩, hbl, hgr2⟩ hK2
          have hpn : pre.length ≤ s.size := by rw [← hlen]; exact hSp.length_le
          generalize pre.length = L at *
          clear hSp
          have hln : w.heap.size + 4 < w2.heap.size := l2
          have hll : w.heap.size + 4 < W.heap.size := by omega
          have hwr : IntKind.i64.wrap (2 + (s.size : Int)) = 2 + s.size := IntWalk.i64_in _ (by omega)
          have hmb : ((L : Int) == min (s.size : Int) (max 1 m)) = true := by rw [beq_iff_eq]; omega
          have hz9 := hgr2.size
          have hE : AllEnd w w2.heap.size W.heap.size D D2 s m s.size L V := ⟨hbV.grown hgr2 (by have := hbV.size; omega) (fun j ej => by cases ej; omega), e0.kept hgr2 (by simp; omega), e1.kept hgr2 (by simp; omega), ⟨_, e2.kept hgr2 (by simp; omega)⟩, e4.kept hgr2 (by simp; omega), en.kept hgr2 (by simp; omega), hbl, (hgr2.block D (by omega) (by simp; omega)).trans hK0, hK2⟩
          have k0 := hE.b0.cell
          gi_wp2_with fail
          refine ⟨trivial, (callsIn_wide.2 (H2.out _ _ _ (SlOf.new V (strV [s]) 45 (0, 0)))).mono ?_⟩; rintro e5 w5 ⟨rfl, hb5⟩; have hz5 := hb5.size; (try simp at hz5)
          have hE5 := Lib.hid ((hE.call ((Below.refl _ _).alloc (Nat.le_refl _) _)).call hb5).ends
          clear hE k0 e0 e1 e2 e3 e4 en el hbl hgr2 hK2 hK0 hbV hb5 hz5 hbW hbW1
          gi_wp2
          refine wpIn_wide.2 ?_
          have hE5d := Lib.hid (hE5.out.1.drew).ends
          clear hE5 hp1 hpm hpl hpn hxl hF hlen hs8 h20 hs
          go_region_held3 (fun A => AllEnd w w2.heap.size W.heap.size D D2 s m s.size L A ∧ A.cell? ⟨w.heap.size, 0, none⟩ = some (.string s) ∧ A.cell? ⟨w.heap.size + 1, 0, none⟩ = some (.int .i64 m) ∧ A.cell? ⟨w.heap.size + 1 + 1 + 1 + 1, 0, none⟩ = some (.int .i64 s.size) ∧ A.cell? ⟨w2.heap.size, 0, none⟩ = some (.int .i64 s.size) ∧ A.cell? ⟨W.heap.size, 0, none⟩ = some (.int .i64 L)) (first | exact hE5d.out | exact (AllEnd.call (And.left (by assumption)) hb8).ends | exact (AllEnd.call (And.left (by assumption)) hb9).ends | assumption | exact (AllEnd.store (And.left (by assumption)) hln hll _).ends) (first | (go_at_call 34; refine (num03_calls _ _).mono ?_; rintro e7 w7 ⟨rfl, rfl⟩) | (go_at_call 38; refine (H1.out _).mono ?_; rintro e8 w8 ⟨rfl, hb8⟩) | (go_at_call 31; refine (HW.out _).mono ?_; rintro e9 w9 ⟨rfl, hb9⟩; have hE9 := AllEnd.call (And.left (by assumption)) hb9; obtain ⟨v2, hv2⟩ := hE9.b2; have z2 := hv2.cell; have zf2 := hv2.frozen))
          have hE10 := hE9.store hln hll (.bool true)
          have hv3 := hv2.set (.bool true)
          gi_wp2
          exact all_ends rfl hv3 hE10.below hE10.d2 hE10.d1 (by omega) (by omega) (by omega)
      case stop =>
        rintro D c pre W hD hSp ⟨_, hno⟩ hK
        exact absurd hSp hno
    | false =>
      have hF : fieldsOf s = [] := by unfold fieldsOf; rw [hb]; rfl
      have hlen : (fieldsOf s).length = 0 := by rw [hF]; rfl
      have hT : tableB [s] = false := by simp [tableB, hb]
      have e1 : ofE [s] 0 = 2 := ofE_bad 0 hT
      have e2 : sizeN [s] 0 = 0 := by unfold sizeN; rw [if_neg (by rw [e1]; decide)]
      rw [e1, e2] at h2
      rw [hb] at h1
      have H1 := Lib.hid h1
      have H2 := Lib.hid h2
      have hs8 : s.size ≤ 20 := by omega
      clear h1 h2 e1 e2 hT
      refine (callsIn_wide (n := 5)).1 ?_
      refine callsIn_of_wp_marks Tryd.func10 rfl trivial ?_ rfl
      simp only [Tryd.ntmps10, List.size_toArray, List.length_cons, List.length_nil, Nat.reduceAdd, Nat.reduceSub, Array.replicate_succ, Array.replicate_zero, List.push_toArray, List.append_toArray, List.nil_append, List.cons_append]
      gi_wp2_with fail
      refine ⟨trivial, (callsIn_wide.2 (all_calls s _)).mono ?_⟩
      rintro e w1 ⟨rfl, rfl⟩
      have hnil := fun W => func_nil W (.pointer (some ⟨w.heap.size + 1 + 1 + 1, 0, none⟩))
      gi_wp2_with fail
      refine ⟨trivial, (callsIn_wide.2 (H1.out _)).mono ?_⟩; rintro e2 w2 ⟨rfl, hb2⟩; have hz2 := hb2.size; (try simp at hz2)
      clear hnil
      obtain ⟨hc2, hf2⟩ := bcell hb2
      have q0 := hc2 w.heap.size 0 (by first | omega | (simp; done) | (simp; omega)); simp [go_sem] at q0
      have q4 := hc2 (w.heap.size + 4) 0 (by first | omega | (simp; done) | (simp; omega)); simp [go_sem] at q4
      have f4 := hf2 (w.heap.size + 4) 0 (by first | omega | (simp; done) | (simp; omega)); simp [go_sem] at f4
      have l2 : (w.heap.size + 4) < w2.heap.size := by first | omega | (simp; done) | (simp; omega)
      gi_wp2
      have b0 : Boxed w2 w.heap.size 45 (.string s) := ((((((Boxed.new w 45 (.string s)).alloc _).alloc _).alloc _).alloc _)).kept (grown_of_below hb2) (by simp)
      have b1 : Boxed w2 (w.heap.size + 1) 3 (.int .i64 m) := by
        have := Boxed.new (w.alloc (.cells #[.string s] 45)) 3 (.int .i64 m)
        simp only [World.size_alloc] at this
        exact (((this.alloc _).alloc _).alloc _).kept (grown_of_below hb2) (by simp)
      have b2 : Boxed w2 (w.heap.size + 1 + 1) 4 (.bool false) := by
        have := Boxed.new ((w.alloc (.cells #[.string s] 45)).alloc (.cells #[.int .i64 m] 3)) 4 (.bool false)
        simp only [World.size_alloc] at this
        exact ((this.alloc _).alloc _).kept (grown_of_below hb2) (by simp)
      have b3 : Boxed w2 (w.heap.size + 1 + 1 + 1) 45 (.string s) := by
        have := Boxed.new (((w.alloc (.cells #[.string s] 45)).alloc (.cells #[.int .i64 m] 3)).alloc (.cells #[.bool false] 4)) 45 (.string s)
        simp only [World.size_alloc] at this
        exact (this.alloc _).kept (grown_of_below hb2) (by simp)
      have b4 : Boxed w2 (w.heap.size + 1 + 1 + 1 + 1) 3 (.int .i64 0) := by
        have := Boxed.new ((((w.alloc (.cells #[.string s] 45)).alloc (.cells #[.int .i64 m] 3)).alloc (.cells #[.bool false] 4)).alloc (.cells #[.string s] 45)) 3 (.int .i64 0)
        simp only [World.size_alloc] at this
        exact this.kept (grown_of_below hb2) (by simp)
      obtain ⟨W0, hW0⟩ : ∃ W0, w2.alloc (.cells #[.int .i64 0] 3) = W0 := ⟨_, rfl⟩
      have c0 : Boxed W0 w.heap.size 45 (.string s) := by rw [← hW0]; exact b0.alloc _
      have c1 : Boxed W0 (w.heap.size + 1) 3 (.int .i64 m) := by rw [← hW0]; exact b1.alloc _
      have c2 : Boxed W0 (w.heap.size + 1 + 1) 4 (.bool false) := by rw [← hW0]; exact b2.alloc _
      have c3 : Boxed W0 (w.heap.size + 1 + 1 + 1) 45 (.string s) := by rw [← hW0]; exact b3.alloc _
      have c4 : Boxed W0 (w.heap.size + 1 + 1 + 1 + 1) 3 (.int .i64 0) := by rw [← hW0]; exact b4.alloc _
      have cn : Boxed W0 w2.heap.size 3 (.int .i64 0) := by
        rw [← hW0]
        exact Boxed.new _ _ _
      have hz0 : W0.heap.size = w2.heap.size + 1 := by rw [← hW0]; simp
      have hbW : Below w.heap.size w W0 := by rw [← hW0]; (repeat (first | exact Below.refl _ _ | (with_reducible assumption) | refine Below.drew ?_ | refine Below.drewN' ?_ _ | refine Below.alloc ?_ (by first | omega | (simp; done) | (simp; omega)) _ | refine Below.setCell ?_ (by first | omega | (simp; done) | (simp; omega)) _ | refine Below.then ?_ hb9 (by first | omega | (simp; done) | (simp; omega)) | refine Below.then ?_ hb8 (by first | omega | (simp; done) | (simp; omega)) | refine Below.then ?_ hb7 (by first | omega | (simp; done) | (simp; omega)) | refine Below.then ?_ hb6 (by first | omega | (simp; done) | (simp; omega)) | refine Below.then ?_ hb5 (by first | omega | (simp; done) | (simp; omega)) | refine Below.then ?_ hb4 (by first | omega | (simp; done) | (simp; omega)) | refine Below.then ?_ hb3 (by first | omega | (simp; done) | (simp; omega)) | refine Below.then ?_ hb2 (by first | omega | (simp; done) | (simp; omega)) | refine Below.then ?_ hb1 (by first | omega | (simp; done) | (simp; omega))))
      rw [hW0]
      clear hW0 b0 b1 b2 b3 b4 q0 q4 f4 hc2 hf2 hb2
      refine wpIn_rangeFunc_ownF rfl (by omega) (gf := 60) (lb := #[.pointer (some ⟨w.heap.size + 1 + 1 + 1, 0, none⟩)]) rfl trivial (enters_of Tryd.func60 (by kernel_rfl) rfl)
        (seqStopsA_iff.1 (all_stops 4 (by omega) s (w.heap.size + 1 + 1 + 1) W0 (by omega) c3.cell)) walksK_t walksK_b (Below.refl _ _) (fun _ => rfl)
        (fun pre W => pre = fieldsTo s pre.length ∧ Boxed W w2.heap.size 3 (.int .i64 pre.length) ∧ W0.grownBy W (some w2.heap.size))
        (fun c pre W => c = .ret ∧ ¬ pre <+: fieldsOf s) (ownFrom_box (by omega) _ _ _) (fun _ _ _ _ _ hs _ _ => hs) ⟨rfl, cn, grown_refl _ _⟩
        (fun x => { tmps := #[.string s, .int .i64 m, .pointer (some ⟨w.heap.size, 0, none⟩), .pointer (some ⟨w.heap.size + 1, 0, none⟩), .pointer (some ⟨w.heap.size + 1 + 1, 0, none⟩), .func (.func 60) #[] #[.pointer (some ⟨w.heap.size + 1 + 1 + 1, 0, none⟩)], .pointer (some ⟨w.heap.size + 1 + 1 + 1 + 1, 0, none⟩), .pointer (some ⟨w2.heap.size, 0, none⟩), .int .i64 x.1, .int .i64 x.2, undef, undef, undef, .string s, .int .i64 s.size, .bool (decide (20 < (s.size : Int))), undef, .string s, .func (.func 60) #[] #[.pointer (some ⟨w.heap.size + 1 + 1 + 1, 0, none⟩)], .func (.func 60) #[] #[.pointer (some ⟨w.heap.size + 1 + 1 + 1, 0, none⟩)], .bool false, .string s, .bool false, undef, undef, .func (.func 60) #[] #[.pointer (some ⟨w.heap.size + 1 + 1 + 1, 0, none⟩)], .int .i64 x.1, .int .i64 x.2, undef, undef, undef, undef, undef, undef, undef, undef, undef, undef, undef, undef, undef, undef, undef, undef, undef, undef, undef, undef, undef, undef, undef, undef, undef, undef, undef, undef, undef, undef, undef, undef, undef, undef, undef, undef, undef, undef, undef, undef, undef, undef, undef, undef, undef, undef, undef, undef, undef, undef, undef, undef, undef, undef, undef, undef, undef, undef, undef, undef, undef, undef, undef, undef, undef, undef, undef, undef, undef, undef, undef, undef, undef, undef], defers := [] }) ?assign ?body ?done ?stop
      case assign =>
        intro l x W K hK
        gi_wp2
        have e : (#[26, 27] : Array Tmp).zip (fieldEnc x) = #[(26, .int .i64 x.1), (27, .int .i64 x.2)] := by unfold fieldEnc; first | (simp; done) | kernel_rfl
        rw [e]
        exact hK
      case body =>
        rintro l pre ⟨xi, xk⟩ W ⟨hpre, hbn, hgr⟩ hlt
        rw [hlen] at hlt
        omega
      case done =>
        rintro D xs W hD hxs ⟨hpre, hbn, hgr⟩ hK
        have hxl : xs.length = 0 := by rw [hxs]; exact hlen
        rw [hxl] at hbn
        clear hpre hxs
        have hz1 := hgr.size
        have a0 := c0.kept hgr (by simp; omega)
        have a1 := c1.kept hgr (by simp; omega)
        have a2 := c2.kept hgr (by simp; omega)
        have a3 := c3.kept hgr (by simp; omega)
        have a4 := c4.kept hgr (by simp; omega)
        have hbW1 : Below w.heap.size w W := hbW.grown hgr (by have := hbW.size; omega) (fun j ej => by cases ej; omega)
        gi_wp2
        obtain ⟨V0, hV0⟩ : ∃ V0, W.alloc (.cells #[.int .i64 0] 3) = V0 := ⟨_, rfl⟩
        have e0 : Boxed V0 w.heap.size 45 (.string s) := by rw [← hV0]; exact a0.alloc _
        have e1 : Boxed V0 (w.heap.size + 1) 3 (.int .i64 m) := by rw [← hV0]; exact a1.alloc _
        have e2 : Boxed V0 (w.heap.size + 1 + 1) 4 (.bool false) := by rw [← hV0]; exact a2.alloc _
        have e3 : Boxed V0 (w.heap.size + 1 + 1 + 1) 45 (.string s) := by rw [← hV0]; exact a3.alloc _
        have e4 : Boxed V0 (w.heap.size + 1 + 1 + 1 + 1) 3 (.int .i64 0) := by rw [← hV0]; exact a4.alloc _
        have en : Boxed V0 w2.heap.size 3 (.int .i64 0) := by rw [← hV0]; exact hbn.alloc _
        have el : Boxed V0 W.heap.size 3 (.int .i64 0) := by rw [← hV0]; exact Boxed.new _ _ _
        have hDlt : D < W.heap.size := (Array.getElem?_eq_some_iff.1 hK).1
        have hK0 : V0.heap[D]? = some (.deferred (some [])) := by rw [← hV0]; exact (Below.heap_alloc W _ D hDlt).trans hK
        have hzV : V0.heap.size = W.heap.size + 1 := by rw [← hV0]; simp
        have hbV : Below w.heap.size w V0 := by rw [← hV0]; exact hbW1.alloc (by have := hbW1.size; omega) _
        rw [hV0]
        clear hV0 hbn hgr hK a0 a1 a2 a3 a4 c0 c1 c2 c3 c4 cn
        refine wpIn_rangeFunc_ownF rfl (by omega) (gf := 60) (lb := #[.pointer (some ⟨w.heap.size + 1 + 1 + 1, 0, none⟩)]) rfl trivial (enters_of Tryd.func60 (by kernel_rfl) rfl)
          (seqStopsA_iff.1 (all_stops 4 (by omega) s (w.heap.size + 1 + 1 + 1) V0 (by omega) e3.cell)) walksK_t walksK_b (Below.refl _ _) (fun _ => rfl)
          (fun pre V => (pre.length = 0 ∨ (pre.length : Int) < m) ∧ Boxed V W.heap.size 3 (.int .i64 pre.length) ∧ V0.grownBy V (some W.heap.size))
          (fun c pre V => (c = .exit 2 ∧ 1 ≤ pre.length ∧ m ≤ pre.length ∧ (pre.length = 1 ∨ (pre.length : Int) - 1 < m)) ∧ Boxed V W.heap.size 3 (.int .i64 pre.length) ∧ V0.grownBy V (some W.heap.size))
          (ownFrom_box (by omega) _ _ _) (fun c => ownFrom_box (by omega) _ _ _) ⟨.inl rfl, el, grown_refl _ _⟩
          (fun x => { tmps := #[.string s, .int .i64 m, .pointer (some ⟨w.heap.size, 0, none⟩), .pointer (some ⟨w.heap.size + 1, 0, none⟩), .pointer (some ⟨w.heap.size + 1 + 1, 0, none⟩), .func (.func 60) #[] #[.pointer (some ⟨w.heap.size + 1 + 1 + 1, 0, none⟩)], .pointer (some ⟨w.heap.size + 1 + 1 + 1 + 1, 0, none⟩), .pointer (some ⟨w2.heap.size, 0, none⟩), undef, undef, .pointer (some ⟨W.heap.size, 0, none⟩), undef, undef, .string s, .int .i64 s.size, .bool (decide (20 < (s.size : Int))), undef, .string s, .func (.func 60) #[] #[.pointer (some ⟨w.heap.size + 1 + 1 + 1, 0, none⟩)], .func (.func 60) #[] #[.pointer (some ⟨w.heap.size + 1 + 1 + 1, 0, none⟩)], .bool false, .string s, .bool false, undef, undef, .func (.func 60) #[] #[.pointer (some ⟨w.heap.size + 1 + 1 + 1, 0, none⟩)], undef, undef, undef, undef, undef, undef, undef, undef, undef, undef, undef, undef, undef, undef, undef, undef, undef, undef, undef, undef, undef, undef, undef, undef, undef, undef, undef, undef, undef, .func (.func 60) #[] #[.pointer (some ⟨w.heap.size + 1 + 1 + 1, 0, none⟩)], .int .i64 x.1, .int .i64 x.2, undef, undef, undef, undef, undef, undef, undef, undef, undef, undef, undef, undef, undef, undef, undef, undef, undef, undef, undef, undef, undef, undef, undef, undef, undef, undef, undef, undef, undef, undef, undef, undef, undef, undef, undef, undef, undef, undef, undef, undef, undef, undef, undef, undef], defers := [] }) ?assign2 ?body2 ?done2 ?stop2
        case assign2 =>
          intro l x W' K hK'
          gi_wp2
          have e : (#[56, 57] : Array Tmp).zip (fieldEnc x) = #[(56, .int .i64 x.1), (57, .int .i64 x.2)] := by unfold fieldEnc; first | (simp; done) | kernel_rfl
          rw [e]
          exact hK'
        case body2 =>
          rintro l pre x V ⟨hlo, hbl, hgr2⟩ hlt
          rw [hlen] at hlt
          omega
        case done2 =>
          rintro D2 ys V hD2 hys ⟨hlo, hbl, hgr2⟩ hK2
          have hyl : ys.length = 0 := by rw [hys]; exact hlen
          rw [hyl] at hbl hlo
          clear hys
          have hln : w.heap.size + 4 < w2.heap.size := l2
          have hll : w.heap.size + 4 < W.heap.size := by omega
          have hmb : ((0 : Int) == min (0 : Int) (max 1 m)) = true := by rw [beq_iff_eq]; omega
          have hmz : min (0 : Int) (max 1 m) = 0 := by omega
          have hz9 := hgr2.size
          have hE : AllEnd w w2.heap.size W.heap.size D D2 s m 0 0 V := ⟨hbV.grown hgr2 (by have := hbV.size; omega) (fun j ej => by cases ej; omega), e0.kept hgr2 (by simp; omega), e1.kept hgr2 (by simp; omega), ⟨_, e2.kept hgr2 (by simp; omega)⟩, e4.kept hgr2 (by simp; omega), en.kept hgr2 (by simp; omega), hbl, (hgr2.block D (by omega) (by simp; omega)).trans hK0, hK2⟩
          have k0 := hE.b0.cell
          gi_wp2_with fail
          refine ⟨trivial, (callsIn_wide.2 (H2.out _ _ _ (SlOf.new V (strV [s]) 45 (0, 0)))).mono ?_⟩; rintro e5 w5 ⟨rfl, hb5⟩; have hz5 := hb5.size; (try simp at hz5)
          have hE5 := Lib.hid ((hE.call ((Below.refl _ _).alloc (Nat.le_refl _) _)).call hb5).ends
          clear hE k0 e0 e1 e2 e3 e4 en el hbl hgr2 hK2 hK0 hbV hb5 hz5 hbW hbW1
          gi_wp2
          refine wpIn_wide.2 ?_
          have hE5d := Lib.hid (hE5.out.1.drew).ends
          clear hE5 hlo hyl hxl hF hlen hs8 h20 hs
          refine wp_region_noPanic ?_
          refine wp_region_held_drew (S := (fun A => AllEnd w w2.heap.size W.heap.size D D2 s m 0 0 A ∧ A.cell? ⟨w.heap.size, 0, none⟩ = some (.string s) ∧ A.cell? ⟨w.heap.size + 1, 0, none⟩ = some (.int .i64 m) ∧ A.cell? ⟨w.heap.size + 1 + 1 + 1 + 1, 0, none⟩ = some (.int .i64 0) ∧ A.cell? ⟨w2.heap.size, 0, none⟩ = some (.int .i64 0) ∧ A.cell? ⟨W.heap.size, 0, none⟩ = some (.int .i64 0))) (by kernel_rfl) ?hS0 (fun hHeld => ?_)
          case hS0 => exact hE5d.out
          (refine wpAnyH_take (i := 0) (oi := ?oiz0) (v := ?vz0) ?hiz0 ?hsz0 ?hfz0 ?hrz0 ?hQz0 ?hyz0 ?hSz0 ?hz0)
          (case hiz0 => rfl)
          (case hsz0 => kernel_rfl)
          (case hfz0 => kernel_rfl)
          (case hrz0 => kernel_rfl)
          (case hQz0 => exact fun _ _ _ h => h)
          (case hSz0 => assumption)
          (case hyz0 => (refine Or.inl ⟨by rfl, ?_⟩; intro W hW; (try dsimp only at hW); go_simp; try with_reducible rfl))
          (try simp only [List.getElem_toArray, List.getElem_cons_succ, List.getElem_cons_zero, Act.put, List.setIfInBounds_toArray, List.set_cons_zero, List.set_cons_succ])
          (refine wpAnyH_take (i := 1) (oi := ?oiz1) (v := ?vz1) ?hiz1 ?hsz1 ?hfz1 ?hrz1 ?hQz1 ?hyz1 ?hSz1 ?hz1)
          (case hiz1 => rfl)
          (case hsz1 => kernel_rfl)
          (case hfz1 => kernel_rfl)
          (case hrz1 => kernel_rfl)
          (case hQz1 => exact fun _ _ _ h => h)
          (case hSz1 => assumption)
          (case hyz1 => (refine Or.inl ⟨by rfl, ?_⟩; intro W hW; (try dsimp only at hW); go_simp; try with_reducible rfl))
          (try simp only [List.getElem_toArray, List.getElem_cons_succ, List.getElem_cons_zero, Act.put, List.setIfInBounds_toArray, List.set_cons_zero, List.set_cons_succ])
          (refine wpAnyH_take (i := 2) (oi := ?oiz2) (v := ?vz2) ?hiz2 ?hsz2 ?hfz2 ?hrz2 ?hQz2 ?hyz2 ?hSz2 ?hz2)
          (case hiz2 => rfl)
          (case hsz2 => kernel_rfl)
          (case hfz2 => kernel_rfl)
          (case hrz2 => kernel_rfl)
          (case hQz2 => exact fun _ _ _ h => h)
          (case hSz2 => assumption)
          (case hyz2 => (refine Or.inl ⟨by rfl, ?_⟩; intro W hW; (try dsimp only at hW); go_simp; try with_reducible rfl))
          (try simp only [List.getElem_toArray, List.getElem_cons_succ, List.getElem_cons_zero, Act.put, List.setIfInBounds_toArray, List.set_cons_zero, List.set_cons_succ])
          (refine wpAnyH_take (i := 3) (oi := ?oiz3) (v := ?vz3) ?hiz3 ?hsz3 ?hfz3 ?hrz3 ?hQz3 ?hyz3 ?hSz3 ?hz3)
          (case hiz3 => rfl)
          (case hsz3 => kernel_rfl)
          (case hfz3 => kernel_rfl)
          (case hrz3 => kernel_rfl)
          (case hQz3 => exact fun _ _ _ h => h)
          (case hSz3 => assumption)
          (case hyz3 => (refine Or.inl ⟨by rfl, ?_⟩; intro W hW; (try dsimp only at hW); go_simp; try with_reducible rfl))
          (try simp only [List.getElem_toArray, List.getElem_cons_succ, List.getElem_cons_zero, Act.put, List.setIfInBounds_toArray, List.set_cons_zero, List.set_cons_succ])
          (refine wpAnyH_take (i := 4) (oi := ?oiz4) (v := ?vz4) ?hiz4 ?hsz4 ?hfz4 ?hrz4 ?hQz4 ?hyz4 ?hSz4 ?hz4)
          (case hiz4 => rfl)
          (case hsz4 => kernel_rfl)
          (case hfz4 => kernel_rfl)
          (case hrz4 => kernel_rfl)
          (case hQz4 => exact fun _ _ _ h => h)
          (case hSz4 => assumption)
          (case hyz4 => (refine Or.inl ⟨by rfl, ?_⟩; intro W hW; (try dsimp only at hW); go_simp; try with_reducible rfl))
          (try simp only [List.getElem_toArray, List.getElem_cons_succ, List.getElem_cons_zero, Act.put, List.setIfInBounds_toArray, List.set_cons_zero, List.set_cons_succ])
          (refine wpAnyH_take (i := 5) (oi := ?oiz5) (v := ?vz5) ?hiz5 ?hsz5 ?hfz5 ?hrz5 ?hQz5 ?hyz5 ?hSz5 ?hz5)
          (case hiz5 => rfl)
          (case hsz5 => kernel_rfl)
          (case hfz5 => kernel_rfl)
          (case hrz5 => kernel_rfl)
          (case hQz5 => exact fun _ _ _ h => h)
          (case hSz5 => assumption)
          (case hyz5 => (refine Or.inl ⟨by rfl, ?_⟩; intro W hW; (try dsimp only at hW); go_simp; try with_reducible rfl))
          (try simp only [List.getElem_toArray, List.getElem_cons_succ, List.getElem_cons_zero, Act.put, List.setIfInBounds_toArray, List.set_cons_zero, List.set_cons_succ])
          (refine wpAnyH_take (i := 6) (oi := ?oiz6) (v := ?vz6) ?hiz6 ?hsz6 ?hfz6 ?hrz6 ?hQz6 ?hyz6 ?hSz6 ?hz6)
          (case hiz6 => rfl)
          (case hsz6 => kernel_rfl)
          (case hfz6 => kernel_rfl)
          (case hrz6 => kernel_rfl)
          (case hQz6 => exact fun _ _ _ h => h)
          (case hSz6 => assumption)
          (case hyz6 => (refine Or.inl ⟨by rfl, ?_⟩; intro W hW; (try dsimp only at hW); go_simp; try with_reducible rfl))
          (try simp only [List.getElem_toArray, List.getElem_cons_succ, List.getElem_cons_zero, Act.put, List.setIfInBounds_toArray, List.set_cons_zero, List.set_cons_succ])
          (refine wpAnyH_take (i := 7) (oi := ?oiz7) (v := ?vz7) ?hiz7 ?hsz7 ?hfz7 ?hrz7 ?hQz7 ?hyz7 ?hSz7 ?hz7)
          (case hiz7 => rfl)
          (case hsz7 => kernel_rfl)
          (case hfz7 => kernel_rfl)
          (case hrz7 => kernel_rfl)
          (case hQz7 => exact fun _ _ _ h => h)
          (case hSz7 => assumption)
          (case hyz7 => (refine Or.inl ⟨by rfl, ?_⟩; intro W hW; (try dsimp only at hW); go_simp; try with_reducible rfl))
          (try simp only [List.getElem_toArray, List.getElem_cons_succ, List.getElem_cons_zero, Act.put, List.setIfInBounds_toArray, List.set_cons_zero, List.set_cons_succ])
          (refine wpAnyH_take (i := 8) (oi := ?oiz8) (v := ?vz8) ?hiz8 ?hsz8 ?hfz8 ?hrz8 ?hQz8 ?hyz8 ?hSz8 ?hz8)
          (case hiz8 => rfl)
          (case hsz8 => kernel_rfl)
          (case hfz8 => kernel_rfl)
          (case hrz8 => kernel_rfl)
          (case hQz8 => exact fun _ _ _ h => h)
          (case hSz8 => assumption)
          (case hyz8 => (refine Or.inl ⟨by rfl, ?_⟩; intro W hW; (try dsimp only at hW); go_simp; try with_reducible rfl))
          (try simp only [List.getElem_toArray, List.getElem_cons_succ, List.getElem_cons_zero, Act.put, List.setIfInBounds_toArray, List.set_cons_zero, List.set_cons_succ])
          (refine wpAnyH_take (i := 9) (oi := ?oiz9) (v := ?vz9) ?hiz9 ?hsz9 ?hfz9 ?hrz9 ?hQz9 ?hyz9 ?hSz9 ?hz9)
          (case hiz9 => rfl)
          (case hsz9 => kernel_rfl)
          (case hfz9 => kernel_rfl)
          (case hrz9 => kernel_rfl)
          (case hQz9 => exact fun _ _ _ h => h)
          (case hSz9 => assumption)
          (case hyz9 => (refine Or.inl ⟨by rfl, ?_⟩; intro W hW; (try dsimp only at hW); go_simp; try with_reducible rfl))
          (try simp only [List.getElem_toArray, List.getElem_cons_succ, List.getElem_cons_zero, Act.put, List.setIfInBounds_toArray, List.set_cons_zero, List.set_cons_succ])
          (refine wpAnyH_take (i := 10) (oi := ?oiz10) (v := ?vz10) ?hiz10 ?hsz10 ?hfz10 ?hrz10 ?hQz10 ?hyz10 ?hSz10 ?hz10)
          (case hiz10 => rfl)
          (case hsz10 => kernel_rfl)
          (case hfz10 => kernel_rfl)
          (case hrz10 => kernel_rfl)
          (case hQz10 => exact fun _ _ _ h => h)
          (case hSz10 => assumption)
          (case hyz10 => (refine Or.inl ⟨by rfl, ?_⟩; intro W hW; (try dsimp only at hW); go_simp; try with_reducible rfl))
          (try simp only [List.getElem_toArray, List.getElem_cons_succ, List.getElem_cons_zero, Act.put, List.setIfInBounds_toArray, List.set_cons_zero, List.set_cons_succ])
          (refine wpAnyH_take (i := 11) (oi := ?oiz11) (v := ?vz11) ?hiz11 ?hsz11 ?hfz11 ?hrz11 ?hQz11 ?hyz11 ?hSz11 ?hz11)
          (case hiz11 => rfl)
          (case hsz11 => kernel_rfl)
          (case hfz11 => kernel_rfl)
          (case hrz11 => kernel_rfl)
          (case hQz11 => exact fun _ _ _ h => h)
          (case hSz11 => assumption)
          (case hyz11 => (refine Or.inl ⟨by rfl, ?_⟩; intro W hW; (try dsimp only at hW); go_simp; try with_reducible rfl))
          (try simp only [List.getElem_toArray, List.getElem_cons_succ, List.getElem_cons_zero, Act.put, List.setIfInBounds_toArray, List.set_cons_zero, List.set_cons_succ])
          (refine wpAnyH_take (i := 12) (oi := ?oiz12) (v := ?vz12) ?hiz12 ?hsz12 ?hfz12 ?hrz12 ?hQz12 ?hyz12 ?hSz12 ?hz12)
          (case hiz12 => rfl)
          (case hsz12 => kernel_rfl)
          (case hfz12 => kernel_rfl)
          (case hrz12 => kernel_rfl)
          (case hQz12 => exact fun _ _ _ h => h)
          (case hSz12 => assumption)
          (case hyz12 => (refine Or.inl ⟨by rfl, ?_⟩; intro W hW; (try dsimp only at hW); go_simp; try with_reducible rfl))
          (try simp only [List.getElem_toArray, List.getElem_cons_succ, List.getElem_cons_zero, Act.put, List.setIfInBounds_toArray, List.set_cons_zero, List.set_cons_succ])
          (refine wpAnyH_take (i := 15) (oi := ?oiz15) (v := ?vz15) ?hiz15 ?hsz15 ?hfz15 ?hrz15 ?hQz15 ?hyz15 ?hSz15 ?hz15)
          (case hiz15 => rfl)
          (case hsz15 => kernel_rfl)
          (case hfz15 => kernel_rfl)
          (case hrz15 => kernel_rfl)
          (case hQz15 => exact fun _ _ _ h => h)
          (case hSz15 => assumption)
          (case hyz15 => (refine Or.inl ⟨by rfl, ?_⟩; intro W hW; (try dsimp only at hW); go_simp; try with_reducible rfl))
          (try simp only [List.getElem_toArray, List.getElem_cons_succ, List.getElem_cons_zero, Act.put, List.setIfInBounds_toArray, List.set_cons_zero, List.set_cons_succ])
          refine wpAnyH_ready (rs := [13]) (by kernel_rfl) (by simp) ?_
          refine AllReadyH.cons rfl (fun K hK => ?_) (AllReadyH.nil)
          go_simp
          refine (num03_calls _ _).mono ?_
          rintro e7 w7 ⟨rfl, rfl⟩
          refine hK.out _ _ ?_ (fun hHeld => ?_)
          · assumption
          clear hK K
          (try simp only [List.getElem_toArray, List.getElem_cons_succ, List.getElem_cons_zero, Act.put, List.setIfInBounds_toArray, List.set_cons_zero, List.set_cons_succ])
          (refine wpAnyH_take (i := 14) (oi := ?oiz14) (v := ?vz14) ?hiz14 ?hsz14 ?hfz14 ?hrz14 ?hQz14 ?hyz14 ?hSz14 ?hz14)
          (case hiz14 => rfl)
          (case hsz14 => kernel_rfl)
          (case hfz14 => kernel_rfl)
          (case hrz14 => kernel_rfl)
          (case hQz14 => exact fun _ _ _ h => h)
          (case hSz14 => assumption)
          (case hyz14 => (refine Or.inl ⟨by rfl, ?_⟩; intro W hW; (try dsimp only at hW); go_simp; try with_reducible rfl))
          (try simp only [List.getElem_toArray, List.getElem_cons_succ, List.getElem_cons_zero, Act.put, List.setIfInBounds_toArray, List.set_cons_zero, List.set_cons_succ])
          refine wpAnyH_ready (rs := [16]) (by kernel_rfl) (by simp) ?_
          refine AllReadyH.cons rfl (fun K hK => ?_) (AllReadyH.nil)
          go_simp
          refine (H1.out _).mono ?_
          rintro e8 w8 ⟨rfl, hb8⟩
          refine hK.out _ _ ?_ (fun hHeld => ?_)
          · exact (AllEnd.call (And.left (by assumption)) hb8).ends
          clear hK K
          (try simp only [List.getElem_toArray, List.getElem_cons_succ, List.getElem_cons_zero, Act.put, List.setIfInBounds_toArray, List.set_cons_zero, List.set_cons_succ])
          (refine wpAnyH_take (i := 17) (oi := ?oiz17) (v := ?vz17) ?hiz17 ?hsz17 ?hfz17 ?hrz17 ?hQz17 ?hyz17 ?hSz17 ?hz17)
          (case hiz17 => rfl)
          (case hsz17 => kernel_rfl)
          (case hfz17 => kernel_rfl)
          (case hrz17 => kernel_rfl)
          (case hQz17 => exact fun _ _ _ h => h)
          (case hSz17 => assumption)
          (case hyz17 => (refine Or.inl ⟨by rfl, ?_⟩; intro W hW; (try dsimp only at hW); go_simp; try with_reducible rfl))
          (try simp only [List.getElem_toArray, List.getElem_cons_succ, List.getElem_cons_zero, Act.put, List.setIfInBounds_toArray, List.set_cons_zero, List.set_cons_succ])
          (refine wpAnyH_take (i := 18) (oi := ?oiz18) (v := ?vz18) ?hiz18 ?hsz18 ?hfz18 ?hrz18 ?hQz18 ?hyz18 ?hSz18 ?hz18)
          (case hiz18 => rfl)
          (case hsz18 => kernel_rfl)
          (case hfz18 => kernel_rfl)
          (case hrz18 => kernel_rfl)
          (case hQz18 => exact fun _ _ _ h => h)
          (case hSz18 => assumption)
          (case hyz18 => (refine Or.inl ⟨by rfl, ?_⟩; intro W hW; (try dsimp only at hW); go_simp; try with_reducible rfl))
          (try simp only [List.getElem_toArray, List.getElem_cons_succ, List.getElem_cons_zero, Act.put, List.setIfInBounds_toArray, List.set_cons_zero, List.set_cons_succ])
          (refine wpAnyH_take (i := 19) (oi := ?oiz19) (v := ?vz19) ?hiz19 ?hsz19 ?hfz19 ?hrz19 ?hQz19 ?hyz19 ?hSz19 ?hz19)
          (case hiz19 => rfl)
          (case hsz19 => kernel_rfl)
          (case hfz19 => kernel_rfl)
          (case hrz19 => kernel_rfl)
          (case hQz19 => exact fun _ _ _ h => h)
          (case hSz19 => assumption)
          (case hyz19 => (refine Or.inl ⟨by rfl, ?_⟩; intro W hW; (try dsimp only at hW); go_simp; try with_reducible rfl))
          (try simp only [List.getElem_toArray, List.getElem_cons_succ, List.getElem_cons_zero, Act.put, List.setIfInBounds_toArray, List.set_cons_zero, List.set_cons_succ])
          (refine wpAnyH_take (i := 20) (oi := ?oiz20) (v := ?vz20) ?hiz20 ?hsz20 ?hfz20 ?hrz20 ?hQz20 ?hyz20 ?hSz20 ?hz20)
          (case hiz20 => rfl)
          (case hsz20 => kernel_rfl)
          (case hfz20 => kernel_rfl)
          (case hrz20 => kernel_rfl)
          (case hQz20 => exact fun _ _ _ h => h)
          (case hSz20 => assumption)
          (case hyz20 => (refine Or.inl ⟨by rfl, ?_⟩; intro W hW; (try dsimp only at hW); go_simp; try with_reducible rfl))
          (try simp only [List.getElem_toArray, List.getElem_cons_succ, List.getElem_cons_zero, Act.put, List.setIfInBounds_toArray, List.set_cons_zero, List.set_cons_succ])
          refine wpAnyH_ready (rs := [21]) (by kernel_rfl) (by simp) ?_
          refine AllReadyH.cons rfl (fun K hK => ?_) (AllReadyH.nil)
          go_simp
          refine (num03_calls _ _).mono ?_
          rintro e7 w7 ⟨rfl, rfl⟩
          refine hK.out _ _ ?_ (fun hHeld => ?_)
          · assumption
          clear hK K
          (try simp only [List.getElem_toArray, List.getElem_cons_succ, List.getElem_cons_zero, Act.put, List.setIfInBounds_toArray, List.set_cons_zero, List.set_cons_succ])
          (refine wpAnyH_take (i := 22) (oi := ?oiz22) (v := ?vz22) ?hiz22 ?hsz22 ?hfz22 ?hrz22 ?hQz22 ?hyz22 ?hSz22 ?hz22)
          (case hiz22 => rfl)
          (case hsz22 => kernel_rfl)
          (case hfz22 => kernel_rfl)
          (case hrz22 => kernel_rfl)
          (case hQz22 => exact fun _ _ _ h => h)
          (case hSz22 => assumption)
          (case hyz22 => (refine Or.inl ⟨by rfl, ?_⟩; intro W hW; (try dsimp only at hW); go_simp; try with_reducible rfl))
          (try simp only [List.getElem_toArray, List.getElem_cons_succ, List.getElem_cons_zero, Act.put, List.setIfInBounds_toArray, List.set_cons_zero, List.set_cons_succ])
          (refine wpAnyH_take (i := 23) (oi := ?oiz23) (v := ?vz23) ?hiz23 ?hsz23 ?hfz23 ?hrz23 ?hQz23 ?hyz23 ?hSz23 ?hz23)
          (case hiz23 => rfl)
          (case hsz23 => kernel_rfl)
          (case hfz23 => kernel_rfl)
          (case hrz23 => kernel_rfl)
          (case hQz23 => exact fun _ _ _ h => h)
          (case hSz23 => assumption)
          (case hyz23 => (refine Or.inl ⟨by rfl, ?_⟩; intro W hW; (try dsimp only at hW); go_simp; try with_reducible rfl))
          (try simp only [List.getElem_toArray, List.getElem_cons_succ, List.getElem_cons_zero, Act.put, List.setIfInBounds_toArray, List.set_cons_zero, List.set_cons_succ])
          (refine wpAnyH_take (i := 24) (oi := ?oiz24) (v := undef) ?hiz24 ?hsz24 ?hfz24 ?hrz24 ?hQz24 ?hyz24 ?hSz24 ?hz24)
          (case hiz24 => rfl)
          (case hsz24 => kernel_rfl)
          (case hfz24 => kernel_rfl)
          (case hrz24 => kernel_rfl)
          (case hQz24 => exact fun _ _ _ h => h)
          (case hSz24 => assumption)
          (case hyz24 => exact Or.inr ⟨by rfl, rfl⟩)
          (try simp only [List.getElem_toArray, List.getElem_cons_succ, List.getElem_cons_zero, Act.put, List.setIfInBounds_toArray, List.set_cons_zero, List.set_cons_succ])
          (refine wpAnyH_take (i := 25) (oi := ?oiz25) (v := undef) ?hiz25 ?hsz25 ?hfz25 ?hrz25 ?hQz25 ?hyz25 ?hSz25 ?hz25)
          (case hiz25 => rfl)
          (case hsz25 => kernel_rfl)
          (case hfz25 => kernel_rfl)
          (case hrz25 => kernel_rfl)
          (case hQz25 => exact fun _ _ _ h => h)
          (case hSz25 => assumption)
          (case hyz25 => exact Or.inr ⟨by rfl, rfl⟩)
          (try simp only [List.getElem_toArray, List.getElem_cons_succ, List.getElem_cons_zero, Act.put, List.setIfInBounds_toArray, List.set_cons_zero, List.set_cons_succ])
          (refine wpAnyH_take (i := 26) (oi := ?oiz26) (v := undef) ?hiz26 ?hsz26 ?hfz26 ?hrz26 ?hQz26 ?hyz26 ?hSz26 ?hz26)
          (case hiz26 => rfl)
          (case hsz26 => kernel_rfl)
          (case hfz26 => kernel_rfl)
          (case hrz26 => kernel_rfl)
          (case hQz26 => exact fun _ _ _ h => h)
          (case hSz26 => assumption)
          (case hyz26 => exact Or.inr ⟨by rfl, rfl⟩)
          (try simp only [List.getElem_toArray, List.getElem_cons_succ, List.getElem_cons_zero, Act.put, List.setIfInBounds_toArray, List.set_cons_zero, List.set_cons_succ])
          (refine wpAnyH_take (i := 27) (oi := ?oiz27) (v := undef) ?hiz27 ?hsz27 ?hfz27 ?hrz27 ?hQz27 ?hyz27 ?hSz27 ?hz27)
          (case hiz27 => rfl)
          (case hsz27 => kernel_rfl)
          (case hfz27 => kernel_rfl)
          (case hrz27 => kernel_rfl)
          (case hQz27 => exact fun _ _ _ h => h)
          (case hSz27 => assumption)
          (case hyz27 => exact Or.inr ⟨by rfl, rfl⟩)
          (try simp only [List.getElem_toArray, List.getElem_cons_succ, List.getElem_cons_zero, Act.put, List.setIfInBounds_toArray, List.set_cons_zero, List.set_cons_succ])
          (refine wpAnyH_take (i := 28) (oi := ?oiz28) (v := ?vz28) ?hiz28 ?hsz28 ?hfz28 ?hrz28 ?hQz28 ?hyz28 ?hSz28 ?hz28)
          (case hiz28 => rfl)
          (case hsz28 => kernel_rfl)
          (case hfz28 => kernel_rfl)
          (case hrz28 => kernel_rfl)
          (case hQz28 => exact fun _ _ _ h => h)
          (case hSz28 => assumption)
          (case hyz28 => (refine Or.inl ⟨by rfl, ?_⟩; intro W hW; (try dsimp only at hW); go_simp; try with_reducible rfl))
          (try simp only [List.getElem_toArray, List.getElem_cons_succ, List.getElem_cons_zero, Act.put, List.setIfInBounds_toArray, List.set_cons_zero, List.set_cons_succ])
          (refine wpAnyH_take (i := 29) (oi := ?oiz29) (v := ?vz29) ?hiz29 ?hsz29 ?hfz29 ?hrz29 ?hQz29 ?hyz29 ?hSz29 ?hz29)
          (case hiz29 => rfl)
          (case hsz29 => kernel_rfl)
          (case hfz29 => kernel_rfl)
          (case hrz29 => kernel_rfl)
          (case hQz29 => exact fun _ _ _ h => h)
          (case hSz29 => assumption)
          (case hyz29 => (refine Or.inl ⟨by rfl, ?_⟩; intro W hW; (try dsimp only at hW); go_simp; try with_reducible rfl))
          (try simp only [List.getElem_toArray, List.getElem_cons_succ, List.getElem_cons_zero, Act.put, List.setIfInBounds_toArray, List.set_cons_zero, List.set_cons_succ])
          (refine wpAnyH_take (i := 30) (oi := ?oiz30) (v := ?vz30) ?hiz30 ?hsz30 ?hfz30 ?hrz30 ?hQz30 ?hyz30 ?hSz30 ?hz30)
          (case hiz30 => rfl)
          (case hsz30 => kernel_rfl)
          (case hfz30 => kernel_rfl)
          (case hrz30 => kernel_rfl)
          (case hQz30 => exact fun _ _ _ h => h)
          (case hSz30 => assumption)
          (case hyz30 => (refine Or.inl ⟨by rfl, ?_⟩; intro W hW; (try dsimp only at hW); go_simp; try with_reducible rfl))
          (try simp only [List.getElem_toArray, List.getElem_cons_succ, List.getElem_cons_zero, Act.put, List.setIfInBounds_toArray, List.set_cons_zero, List.set_cons_succ])
          refine wpAnyH_ready (rs := [31]) (by kernel_rfl) (by simp) ?_
          refine AllReadyH.cons rfl (fun K hK => ?_) (AllReadyH.nil)
          go_simp
          refine (HW.out _).mono ?_
          rintro e9 w9 ⟨rfl, hb9⟩
          have hE9 := AllEnd.call (And.left (by assumption)) hb9
          obtain ⟨v2, hv2⟩ := hE9.b2
          have z2 := hv2.cell
          have zf2 := hv2.frozen
          refine hK.out _ _ ?_ (fun hHeld => ?_)
          · exact hE9.ends
          clear hK K
          (try simp only [List.getElem_toArray, List.getElem_cons_succ, List.getElem_cons_zero, Act.put, List.setIfInBounds_toArray, List.set_cons_zero, List.set_cons_succ])
          (refine wpAnyH_take (i := 32) (oi := ?oiz32) (v := ?vz32) ?hiz32 ?hsz32 ?hfz32 ?hrz32 ?hQz32 ?hyz32 ?hSz32 ?hz32)
          (case hiz32 => rfl)
          (case hsz32 => kernel_rfl)
          (case hfz32 => kernel_rfl)
          (case hrz32 => kernel_rfl)
          (case hQz32 => exact fun _ _ _ h => h)
          (case hSz32 => assumption)
          (case hyz32 => (refine Or.inl ⟨by rfl, ?_⟩; intro W hW; (try dsimp only at hW); go_simp; try with_reducible rfl))
          (try simp only [List.getElem_toArray, List.getElem_cons_succ, List.getElem_cons_zero, Act.put, List.setIfInBounds_toArray, List.set_cons_zero, List.set_cons_succ])
          refine wpAnyH_ready (rs := [33]) (by kernel_rfl) (by simp) ?_
          refine AllReadyH.cons rfl (fun K hK => ?_) (AllReadyH.nil)
          go_simp
          refine hK.out _ _ ?_ (fun hHeld => ?_)
          · exact (AllEnd.store (And.left (by assumption)) hln hll _).ends
          clear hK K
          (try simp only [List.getElem_toArray, List.getElem_cons_succ, List.getElem_cons_zero, Act.put, List.setIfInBounds_toArray, List.set_cons_zero, List.set_cons_succ])
          refine wpAnyH_done (by kernel_rfl) ?_ _
          refine NoPanic.normal ?_
          have hE10 := hE9.store hln hll (.bool true)
          have hv3 := hv2.set (.bool true)
          gi_wp2
          exact all_ends rfl hv3 hE10.below hE10.d2 hE10.d1 (by omega) (by omega) (by omega)
        case stop2 =>
          rintro D2 c pre V hD2 hSp ⟨⟨rfl, hp1, hpm, hpl⟩, hbl, hgr2⟩ hK2
          have hpn : pre.length ≤ 0 := by rw [← hlen]; exact hSp.length_le
          omega
      case stop =>
        rintro D c pre W hD hSp ⟨_, hno⟩ hK
        exact absurd hSp hno

end Go.Proofs.YtcdfhceohjhogaaDoor
