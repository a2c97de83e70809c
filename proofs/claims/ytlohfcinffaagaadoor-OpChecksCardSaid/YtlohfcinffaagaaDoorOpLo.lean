/- A slice of operations that came in, as the printed laws read it. -/
import Derived.Test.YtlohfcinffaagaaDoorOpJ
import Derived.Test.YtlohfcinffaagaaDoorLiftKit
import Derived.Test.YtlohfcinffaagaaDoorQOp0
namespace Go.Proofs.YtlohfcinffaagaaDoor
open Go.RowKit Go.ChangeShapes Go.WideShapes Go.ChangeAt Go.Proofs.YtlohfcinffaagaaDoorW.PrintWords Go.Proofs.YtlohfcinffaagaaDoorQ.Op
set_option linter.unusedVariables false
set_option linter.unusedSimpArgs false

theorem listOf {α : Type} (R : Nat → α → Prop) : ∀ (n : Nat), (∀ i, i < n → ∃ z, R i z) → ∃ zs : List α, zs.length = n ∧ ∀ i z, zs[i]? = some z → R i z
  | 0, _ => ⟨[], rfl, fun i z h => by simp at h⟩
  | n + 1, h => by
    obtain ⟨zs, hl, hz⟩ := listOf R n (fun i hi => h i (by omega))
    obtain ⟨y, hy⟩ := h n (by omega)
    refine ⟨zs ++ [y], by simp [hl], fun i z hiz => ?_⟩
    by_cases hi : i < n
    · rw [List.getElem?_append_left (by omega)] at hiz
      exact hz i z hiz
    · rw [List.getElem?_append_right (by omega)] at hiz
      have e : i - zs.length = 0 := by
        rcases Nat.eq_zero_or_pos (i - zs.length) with h0 | h0
        · exact h0
        · rw [List.getElem?_eq_none (by simp; omega)] at hiz; cases hiz
      rw [e] at hiz
      simp at hiz
      subst hiz
      have : i = n := by omega
      rw [this]; exact hy
def opS (z : S35) : OpN := ⟨z.f0, z.f1, z.f2, z.f3, z.f4, z.f5, z.f6, z.f7⟩
def cellsS (z : S35) : List Value := [.int .i64 z.f0, .int .i64 z.f1, .int .i64 z.f2, .int .i64 z.f3, .int .i64 z.f4, .int .i64 z.f5, .int .i64 z.f6, .int .i64 z.f7]
def fitS (z : S35) : Prop := (Lit.int .i64 z.f0).wf = true ∧ (Lit.int .i64 z.f1).wf = true ∧ (Lit.int .i64 z.f2).wf = true ∧ (Lit.int .i64 z.f3).wf = true ∧ (Lit.int .i64 z.f4).wf = true ∧ (Lit.int .i64 z.f5).wf = true ∧ (Lit.int .i64 z.f6).wf = true ∧ (Lit.int .i64 z.f7).wf = true
theorem fitS_of {z : S35} (h : fitS z) : fitB (opS z) = true := by
  obtain ⟨_, h1, h2, h3, h4, h5, h6, h7⟩ := h
  exact fits_mk ⟨wf_i64 h1, wf_i64 h2, wf_i64 h3, wf_i64 h4, wf_i64 h5, wf_i64 h6, wf_i64 h7⟩
theorem cellsOf_24 : Tryd.prog.cellsOf 24 = 1 := by kernel_rfl
theorem cellsOf_3 : Tryd.prog.cellsOf 3 = 1 := by kernel_rfl
theorem cellsOf_2 : Tryd.prog.cellsOf 2 = 1 := by kernel_rfl
theorem cellsOf35 : Tryd.prog.cellsOf 35 = 8 := by kernel_rfl

section
variable {H : Type} {enc : TypeId × Value → H} {w : World} {base : Nat} {spare : Nat → Bool} {held : Bool}
theorem rd_op {fuel : Nat} {cs : List Value} {x : DataW H × List MemPlace} (h : DataW.trod enc Tryd.prog w base spare held fuel 35 cs = some x) : ∃ z, cs = cellsS z ∧ fitS z := by
  obtain ⟨n, hl, hf⟩ := rd_struct Tryd.underlying35 h
  rw [cellsOf35] at hl
  obtain ⟨q0, q1, q2, q3, q4, q5, q6, q7, rfl⟩ := list8 hl
  obtain ⟨_, g0⟩ := hf 0 _ rfl
  obtain ⟨_, g1⟩ := hf 1 _ rfl
  obtain ⟨_, g2⟩ := hf 2 _ rfl
  obtain ⟨_, g3⟩ := hf 3 _ rfl
  obtain ⟨_, g4⟩ := hf 4 _ rfl
  obtain ⟨_, g5⟩ := hf 5 _ rfl
  obtain ⟨_, g6⟩ := hf 6 _ rfl
  obtain ⟨_, g7⟩ := hf 7 _ rfl
  simp only [List.getElem_toArray, List.getElem_cons_zero, List.getElem_cons_succ] at g0
  rw [cellsOf_24] at g0
  simp only [List.drop_zero, List.drop_succ_cons, List.take_succ_cons, List.take_zero] at g0
  obtain ⟨x0, e0, w0⟩ := rd_int Tryd.underlying24 g0
  simp only [List.cons.injEq, and_true] at e0
  subst e0
  simp only [List.getElem_toArray, List.getElem_cons_zero, List.getElem_cons_succ] at g1
  rw [cellsOf_3] at g1
  simp only [List.drop_zero, List.drop_succ_cons, List.take_succ_cons, List.take_zero] at g1
  obtain ⟨x1, e1, w1⟩ := rd_int Tryd.underlying3 g1
  simp only [List.cons.injEq, and_true] at e1
  subst e1
  simp only [List.getElem_toArray, List.getElem_cons_zero, List.getElem_cons_succ] at g2
  rw [cellsOf_3] at g2
  simp only [List.drop_zero, List.drop_succ_cons, List.take_succ_cons, List.take_zero] at g2
  obtain ⟨x2, e2, w2⟩ := rd_int Tryd.underlying3 g2
  simp only [List.cons.injEq, and_true] at e2
  subst e2
  simp only [List.getElem_toArray, List.getElem_cons_zero, List.getElem_cons_succ] at g3
  rw [cellsOf_3] at g3
  simp only [List.drop_zero, List.drop_succ_cons, List.take_succ_cons, List.take_zero] at g3
  obtain ⟨x3, e3, w3⟩ := rd_int Tryd.underlying3 g3
  simp only [List.cons.injEq, and_true] at e3
  subst e3
  simp only [List.getElem_toArray, List.getElem_cons_zero, List.getElem_cons_succ] at g4
  rw [cellsOf_3] at g4
  simp only [List.drop_zero, List.drop_succ_cons, List.take_succ_cons, List.take_zero] at g4
  obtain ⟨x4, e4, w4⟩ := rd_int Tryd.underlying3 g4
  simp only [List.cons.injEq, and_true] at e4
  subst e4
  simp only [List.getElem_toArray, List.getElem_cons_zero, List.getElem_cons_succ] at g5
  rw [cellsOf_3] at g5
  simp only [List.drop_zero, List.drop_succ_cons, List.take_succ_cons, List.take_zero] at g5
  obtain ⟨x5, e5, w5⟩ := rd_int Tryd.underlying3 g5
  simp only [List.cons.injEq, and_true] at e5
  subst e5
  simp only [List.getElem_toArray, List.getElem_cons_zero, List.getElem_cons_succ] at g6
  rw [cellsOf_2] at g6
  simp only [List.drop_zero, List.drop_succ_cons, List.take_succ_cons, List.take_zero] at g6
  obtain ⟨x6, e6, w6⟩ := rd_int Tryd.underlying2 g6
  simp only [List.cons.injEq, and_true] at e6
  subst e6
  simp only [List.getElem_toArray, List.getElem_cons_zero, List.getElem_cons_succ] at g7
  rw [cellsOf_2] at g7
  simp only [List.drop_zero, List.drop_succ_cons, List.take_succ_cons, List.take_zero] at g7
  obtain ⟨x7, e7, w7⟩ := rd_int Tryd.underlying2 g7
  simp only [List.cons.injEq, and_true] at e7
  subst e7
  exact ⟨⟨x0, x1, x2, x3, x4, x5, x6, x7⟩, rfl, w0, w1, w2, w3, w4, w5, w6, w7⟩
/-- a slice of operations that came in -/
theorem rd_sl35 {fuel : Nat} {cs : List Value} {x : DataW H × List MemPlace} (_ : spare = fun _ => true) (h : DataW.trod enc Tryd.prog w base spare held fuel 29 cs = some x) :
    ∃ (a : Option Addr) (c : Nat) (zs : List S35), cs = [.slice a zs.length c] ∧ (zs.length ≤ maxLen ∧ zs.length ≤ c) ∧ Kd.C k35 w a zs.length zs ∧ ∀ z ∈ zs, fitS z := by

  rcases DataW.trod_slice Tryd.underlying29 h with ⟨hcs, _⟩ | ⟨a, len, cap, elems, rest, n, _, hcs, _, hb, hl, hm, hlen, hel, _, _⟩
  · exact ⟨none, 0, [], hcs, by simp, ⟨rfl, by simp, fun h => by simp at h⟩, by simp⟩
  · have each : ∀ i, i < len → ∃ z : S35, fitS z ∧ ∀ j u, (cellsS z)[j]? = some u → w.cell? (a.add (i * 8 + j)) = some u := by
      intro i hi
      have h1 := hel i hi
      rw [List.getElem?_eq_getElem (by omega)] at h1
      obtain ⟨cs', hc1, hc2⟩ := Option.bind_eq_some_iff.1 h1
      rw [cellsOf35] at hc1
      obtain ⟨_, hcl, hat⟩ := World.cells?_some hc1
      obtain ⟨z, rfl, hz⟩ := rd_op hc2
      refine ⟨z, hz, fun j u hu => ?_⟩
      have hj : j < 8 := by have := (List.getElem?_eq_some_iff.1 hu).1; simpa [cellsS] using this
      have := hat j hj
      rw [hu] at this
      rw [← this]
      congr 1
      simp only [Addr.add]
      repeat' split
      all_goals first | (simp_all; done) | (simp_all; omega) | skip
    obtain ⟨zs, hzl, hz⟩ := listOf _ len each
    subst hzl
    refine ⟨some a, cap, zs, hcs, ⟨by omega, hl⟩, ⟨rfl, by unfold maxLen at hm; omega, fun _ => ⟨a, rfl, fun j p hp => ⟨cellsS p, rfl, ?_, fun i u hu => ?_⟩⟩⟩, fun z hzm => ?_⟩
    · exact ⟨[_], _, rfl, rfl, [_], _, rfl, rfl, [_], _, rfl, rfl, [_], _, rfl, rfl, [_], _, rfl, rfl, [_], _, rfl, rfl, [_], [_], rfl, rfl, rfl⟩
    · exact (hz j p hp).2 i u hu
    · obtain ⟨i, hi, rfl⟩ := List.mem_iff_getElem.1 hzm
      exact (hz i _ (List.getElem?_eq_getElem hi)).1
end

end Go.Proofs.YtlohfcinffaagaaDoor
