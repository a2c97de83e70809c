/- The statement 'DoorSame': for every input the law returns true, and its arguments read behind the call as they did. -/
import Derived.Test.YtafenndokmccoaaRows
import Derived.Test.YtafenndokmccoaaLiftKit2
import Derived.Test.YtafenndokmccoaaDoorK
import Derived.Deep.DeepHandedRow
import Derived.Lib.LaidTab
import Derived.JoinedCond
namespace Go.Proofs.Ytafenndokmccoaa.doorSame
open Go.ChangeShapes Go.WideShapes Go.ChangeAt Go.RowKit
set_option linter.unusedVariables false
set_option linter.unusedSimpArgs false
theorem own : ownKnob Try.prog.godebug = none := by kernel_rfl
theorem laidOut : laidOutB Try.prog = true := by kernel_rfl
theorem cells2 : Try.prog.cellsOf 2 = 1 := by kernel_rfl
theorem cells3 : Try.prog.cellsOf 3 = 1 := by kernel_rfl
theorem cells22 : Try.prog.cellsOf 22 = 1 := by kernel_rfl
theorem cells24 : Try.prog.cellsOf 24 = 3 := by kernel_rfl
theorem cells41 : Try.prog.cellsOf 41 = 1 := by kernel_rfl
theorem cells85 : Try.prog.cellsOf 85 = 1 := by kernel_rfl
theorem cells87 : Try.prog.cellsOf 87 = 3 := by kernel_rfl
theorem cells88 : Try.prog.cellsOf 88 = 6 := by kernel_rfl
theorem cells90 : Try.prog.cellsOf 90 = 13 := by kernel_rfl
theorem cells91 : Try.prog.cellsOf 91 = 1 := by kernel_rfl
theorem cells93 : Try.prog.cellsOf 93 = 8 := by kernel_rfl
theorem cells125 : Try.prog.cellsOf 125 = 1 := by kernel_rfl

set_option maxRecDepth 100000 in
theorem contract (H : Type) (enc : TypeId × Value → H) (W : World) (base : Nat) (args : Array Value) (ds gs : List (DataW H)) (before : List MemPlace)
    (hval : ∀ (j : Nat) t v, Try.f7.params[j]? = some t → args[j]? = some v → Value.okWide Try.prog W .any base t v)
    (hW : DataW.Whole enc Try.prog Try.f7.params.toList Rows.doorSameSpec.vars false W args.toList ds gs before) (hL : laidMetH Try.prog Rows.doorSameRow.laid W) (hSh : W.ShapedOpen Try.prog) :
    Calls Try.prog 7 args W fun e W' => ∃ v, e = .returned v ∧ Rows.doorSameSpec.post enc Try.prog Try.f7 false true false false W args v W' := by
  have hW' := hW
  obtain ⟨p, q, hA0, hV, rfl, hfz, hnd⟩ := hW
  have hA : DataW.TrodAll enc Try.prog W 0 (fun _ => true) true Try.f7.params.toList args.toList ds p := hA0
  rw [Try.params7] at hA hval
  obtain ⟨v0, vs0, d0, ds0, p0, q0, hargs, rfl, rfl, h0, r0⟩ := trodAll_cons hA
  obtain ⟨v1, vs1, d1, ds1, p1, q1, rfl, rfl, rfl, h1, r1⟩ := trodAll_cons r0
  obtain ⟨v2, vs2, d2, ds2, p2, q2, rfl, rfl, rfl, h2, r2⟩ := trodAll_cons r1
  obtain ⟨v3, vs3, d3, ds3, p3, q3, rfl, rfl, rfl, h3, r3⟩ := trodAll_cons r2
  obtain ⟨v4, vs4, d4, ds4, p4, q4, rfl, rfl, rfl, h4, r4⟩ := trodAll_cons r3
  obtain ⟨rfl, rfl, rfl⟩ := trodAll_nil r4
  obtain rfl : args = #[v0, v1, v2, v3, v4] := by cases args; simp_all
  obtain ⟨rfl, rfl⟩ := trodVars_none hV
  have k0 := h0
  have lt0 : ∀ x ∈ p0, x.block < W.heap.size := by obtain ⟨m, hm⟩ := k0; exact DataW.trod_lt m _ _ _ hm
  obtain ⟨cs0, rfl, hsz0⟩ := okWide_struct Try.underlying24 (hval 0 24 v0 rfl rfl)
  obtain ⟨cs0⟩ := cs0
  obtain ⟨fu0, hf0⟩ := h0
  simp only [Value.cells] at hf0
  obtain ⟨q0_0, q0_1, q0_2, rfl⟩ := list3 (list_len hsz0 cells24)
  obtain ⟨n0, _, f0⟩ := rd_struct Try.underlying24 hf0
  obtain ⟨_, g0_0⟩ := f0 0 _ rfl
  simp only [List.getElem_toArray, List.getElem_cons_zero, List.getElem_cons_succ] at g0_0
  rw [cells3] at g0_0
  simp only [List.drop_zero, List.drop_succ_cons, List.take_succ_cons, List.take_zero] at g0_0
  obtain ⟨x0_0, e0_0, w0_0⟩ := rd_int Try.underlying3 g0_0
  simp only [List.cons.injEq, and_true] at e0_0
  subst e0_0
  obtain ⟨_, g0_1⟩ := f0 1 _ rfl
  simp only [List.getElem_toArray, List.getElem_cons_zero, List.getElem_cons_succ] at g0_1
  rw [cells3] at g0_1
  simp only [List.drop_zero, List.drop_succ_cons, List.take_succ_cons, List.take_zero] at g0_1
  obtain ⟨x0_1, e0_1, w0_1⟩ := rd_int Try.underlying3 g0_1
  simp only [List.cons.injEq, and_true] at e0_1
  subst e0_1
  obtain ⟨_, g0_2⟩ := f0 2 _ rfl
  simp only [List.getElem_toArray, List.getElem_cons_zero, List.getElem_cons_succ] at g0_2
  rw [cells22] at g0_2
  simp only [List.drop_zero, List.drop_succ_cons, List.take_succ_cons, List.take_zero] at g0_2
  obtain ⟨a0_2, c0_2, z0_2, e0_2, l0_2, s0_2, w0_2⟩ := rd_strs Try.underlying22 Try.underlying125 cells125 rfl g0_2
  simp only [List.cons.injEq, and_true] at e0_2
  subst e0_2
  have k1 := h1
  have lt1 : ∀ x ∈ p1, x.block < W.heap.size := by obtain ⟨m, hm⟩ := k1; exact DataW.trod_lt m _ _ _ hm
  obtain ⟨cs1, rfl, hsz1⟩ := okWide_struct Try.underlying90 (hval 1 90 v1 rfl rfl)
  obtain ⟨cs1⟩ := cs1
  obtain ⟨fu1, hf1⟩ := h1
  simp only [Value.cells] at hf1
  obtain ⟨q1_0, q1_1, q1_2, q1_3, q1_4, q1_5, q1_6, q1_7, q1_8, q1_9, q1_10, q1_11, q1_12, rfl⟩ := list13 (list_len hsz1 cells90)
  obtain ⟨n1, _, f1⟩ := rd_struct Try.underlying90 hf1
  obtain ⟨_, g1_0⟩ := f1 0 _ rfl
  simp only [List.getElem_toArray, List.getElem_cons_zero, List.getElem_cons_succ] at g1_0
  rw [cells3] at g1_0
  simp only [List.drop_zero, List.drop_succ_cons, List.take_succ_cons, List.take_zero] at g1_0
  obtain ⟨x1_0, e1_0, w1_0⟩ := rd_int Try.underlying3 g1_0
  simp only [List.cons.injEq, and_true] at e1_0
  subst e1_0
  obtain ⟨_, g1_1⟩ := f1 1 _ rfl
  simp only [List.getElem_toArray, List.getElem_cons_zero, List.getElem_cons_succ] at g1_1
  rw [cells85] at g1_1
  simp only [List.drop_zero, List.drop_succ_cons, List.take_succ_cons, List.take_zero] at g1_1
  obtain ⟨x1_1, e1_1, w1_1⟩ := rd_int Try.underlying85 g1_1
  simp only [List.cons.injEq, and_true] at e1_1
  subst e1_1
  obtain ⟨_, g1_2⟩ := f1 2 _ rfl
  simp only [List.getElem_toArray, List.getElem_cons_zero, List.getElem_cons_succ] at g1_2
  rw [cells2] at g1_2
  simp only [List.drop_zero, List.drop_succ_cons, List.take_succ_cons, List.take_zero] at g1_2
  obtain ⟨x1_2, e1_2, w1_2⟩ := rd_int Try.underlying2 g1_2
  simp only [List.cons.injEq, and_true] at e1_2
  subst e1_2
  obtain ⟨_, g1_3⟩ := f1 3 _ rfl
  simp only [List.getElem_toArray, List.getElem_cons_zero, List.getElem_cons_succ] at g1_3
  rw [cells3] at g1_3
  simp only [List.drop_zero, List.drop_succ_cons, List.take_succ_cons, List.take_zero] at g1_3
  obtain ⟨x1_3, e1_3, w1_3⟩ := rd_int Try.underlying3 g1_3
  simp only [List.cons.injEq, and_true] at e1_3
  subst e1_3
  obtain ⟨_, g1_4⟩ := f1 4 _ rfl
  simp only [List.getElem_toArray, List.getElem_cons_zero, List.getElem_cons_succ] at g1_4
  rw [cells87] at g1_4
  simp only [List.drop_zero, List.drop_succ_cons, List.take_succ_cons, List.take_zero] at g1_4
  obtain ⟨n1_4, _, f1_4⟩ := rd_struct Try.underlying87 g1_4
  obtain ⟨_, g1_4_0⟩ := f1_4 0 _ rfl
  simp only [List.getElem_toArray, List.getElem_cons_zero, List.getElem_cons_succ] at g1_4_0
  rw [cells3] at g1_4_0
  simp only [List.drop_zero, List.drop_succ_cons, List.take_succ_cons, List.take_zero] at g1_4_0
  obtain ⟨x1_4_0, e1_4_0, w1_4_0⟩ := rd_int Try.underlying3 g1_4_0
  simp only [List.cons.injEq, and_true] at e1_4_0
  subst e1_4_0
  obtain ⟨_, g1_4_1⟩ := f1_4 1 _ rfl
  simp only [List.getElem_toArray, List.getElem_cons_zero, List.getElem_cons_succ] at g1_4_1
  rw [cells3] at g1_4_1
  simp only [List.drop_zero, List.drop_succ_cons, List.take_succ_cons, List.take_zero] at g1_4_1
  obtain ⟨x1_4_1, e1_4_1, w1_4_1⟩ := rd_int Try.underlying3 g1_4_1
  simp only [List.cons.injEq, and_true] at e1_4_1
  subst e1_4_1
  obtain ⟨_, g1_4_2⟩ := f1_4 2 _ rfl
  simp only [List.getElem_toArray, List.getElem_cons_zero, List.getElem_cons_succ] at g1_4_2
  rw [cells3] at g1_4_2
  simp only [List.drop_zero, List.drop_succ_cons, List.take_succ_cons, List.take_zero] at g1_4_2
  obtain ⟨x1_4_2, e1_4_2, w1_4_2⟩ := rd_int Try.underlying3 g1_4_2
  simp only [List.cons.injEq, and_true] at e1_4_2
  subst e1_4_2
  obtain ⟨_, g1_5⟩ := f1 5 _ rfl
  simp only [List.getElem_toArray, List.getElem_cons_zero, List.getElem_cons_succ] at g1_5
  rw [cells88] at g1_5
  simp only [List.drop_zero, List.drop_succ_cons, List.take_succ_cons, List.take_zero] at g1_5
  obtain ⟨n1_5, _, f1_5⟩ := rd_array Try.underlying88 g1_5
  obtain ⟨_, g1_5_0⟩ := f1_5 0 (by decide)
  rw [cells41] at g1_5_0
  simp only [Nat.reduceMul, List.drop_zero, List.drop_succ_cons, List.take_succ_cons, List.take_zero] at g1_5_0
  obtain ⟨x1_5_0, e1_5_0, w1_5_0⟩ := rd_int Try.underlying41 g1_5_0
  simp only [List.cons.injEq, and_true] at e1_5_0
  subst e1_5_0
  obtain ⟨_, g1_5_1⟩ := f1_5 1 (by decide)
  rw [cells41] at g1_5_1
  simp only [Nat.reduceMul, List.drop_zero, List.drop_succ_cons, List.take_succ_cons, List.take_zero] at g1_5_1
  obtain ⟨x1_5_1, e1_5_1, w1_5_1⟩ := rd_int Try.underlying41 g1_5_1
  simp only [List.cons.injEq, and_true] at e1_5_1
  subst e1_5_1
  obtain ⟨_, g1_5_2⟩ := f1_5 2 (by decide)
  rw [cells41] at g1_5_2
  simp only [Nat.reduceMul, List.drop_zero, List.drop_succ_cons, List.take_succ_cons, List.take_zero] at g1_5_2
  obtain ⟨x1_5_2, e1_5_2, w1_5_2⟩ := rd_int Try.underlying41 g1_5_2
  simp only [List.cons.injEq, and_true] at e1_5_2
  subst e1_5_2
  obtain ⟨_, g1_5_3⟩ := f1_5 3 (by decide)
  rw [cells41] at g1_5_3
  simp only [Nat.reduceMul, List.drop_zero, List.drop_succ_cons, List.take_succ_cons, List.take_zero] at g1_5_3
  obtain ⟨x1_5_3, e1_5_3, w1_5_3⟩ := rd_int Try.underlying41 g1_5_3
  simp only [List.cons.injEq, and_true] at e1_5_3
  subst e1_5_3
  obtain ⟨_, g1_5_4⟩ := f1_5 4 (by decide)
  rw [cells41] at g1_5_4
  simp only [Nat.reduceMul, List.drop_zero, List.drop_succ_cons, List.take_succ_cons, List.take_zero] at g1_5_4
  obtain ⟨x1_5_4, e1_5_4, w1_5_4⟩ := rd_int Try.underlying41 g1_5_4
  simp only [List.cons.injEq, and_true] at e1_5_4
  subst e1_5_4
  obtain ⟨_, g1_5_5⟩ := f1_5 5 (by decide)
  rw [cells41] at g1_5_5
  simp only [Nat.reduceMul, List.drop_zero, List.drop_succ_cons, List.take_succ_cons, List.take_zero] at g1_5_5
  obtain ⟨x1_5_5, e1_5_5, w1_5_5⟩ := rd_int Try.underlying41 g1_5_5
  simp only [List.cons.injEq, and_true] at e1_5_5
  subst e1_5_5
  have k2 := h2
  have lt2 : ∀ x ∈ p2, x.block < W.heap.size := by obtain ⟨m, hm⟩ := k2; exact DataW.trod_lt m _ _ _ hm
  obtain ⟨u2, rfl⟩ := okWide_int Try.underlying3 (hval 2 3 v2 rfl rfl)
  obtain ⟨fu2, hf2⟩ := h2
  simp only [Value.cells] at hf2
  obtain ⟨x2, e2, w2⟩ := rd_int Try.underlying3 hf2
  simp only [List.cons.injEq, and_true, true_and, Value.int.injEq] at e2
  obtain rfl := e2
  have k3 := h3
  have lt3 : ∀ x ∈ p3, x.block < W.heap.size := by obtain ⟨m, hm⟩ := k3; exact DataW.trod_lt m _ _ _ hm
  obtain ⟨cs3, rfl, hsz3⟩ := okWide_struct Try.underlying93 (hval 3 93 v3 rfl rfl)
  obtain ⟨cs3⟩ := cs3
  obtain ⟨fu3, hf3⟩ := h3
  simp only [Value.cells] at hf3
  obtain ⟨q3_0, q3_1, q3_2, q3_3, q3_4, q3_5, q3_6, q3_7, rfl⟩ := list8 (list_len hsz3 cells93)
  obtain ⟨n3, _, f3⟩ := rd_struct Try.underlying93 hf3
  obtain ⟨_, g3_0⟩ := f3 0 _ rfl
  simp only [List.getElem_toArray, List.getElem_cons_zero, List.getElem_cons_succ] at g3_0
  rw [cells91] at g3_0
  simp only [List.drop_zero, List.drop_succ_cons, List.take_succ_cons, List.take_zero] at g3_0
  obtain ⟨x3_0, e3_0, w3_0⟩ := rd_int Try.underlying91 g3_0
  simp only [List.cons.injEq, and_true] at e3_0
  subst e3_0
  obtain ⟨_, g3_1⟩ := f3 1 _ rfl
  simp only [List.getElem_toArray, List.getElem_cons_zero, List.getElem_cons_succ] at g3_1
  rw [cells3] at g3_1
  simp only [List.drop_zero, List.drop_succ_cons, List.take_succ_cons, List.take_zero] at g3_1
  obtain ⟨x3_1, e3_1, w3_1⟩ := rd_int Try.underlying3 g3_1
  simp only [List.cons.injEq, and_true] at e3_1
  subst e3_1
  obtain ⟨_, g3_2⟩ := f3 2 _ rfl
  simp only [List.getElem_toArray, List.getElem_cons_zero, List.getElem_cons_succ] at g3_2
  rw [cells3] at g3_2
  simp only [List.drop_zero, List.drop_succ_cons, List.take_succ_cons, List.take_zero] at g3_2
  obtain ⟨x3_2, e3_2, w3_2⟩ := rd_int Try.underlying3 g3_2
  simp only [List.cons.injEq, and_true] at e3_2
  subst e3_2
  obtain ⟨_, g3_3⟩ := f3 3 _ rfl
  simp only [List.getElem_toArray, List.getElem_cons_zero, List.getElem_cons_succ] at g3_3
  rw [cells3] at g3_3
  simp only [List.drop_zero, List.drop_succ_cons, List.take_succ_cons, List.take_zero] at g3_3
  obtain ⟨x3_3, e3_3, w3_3⟩ := rd_int Try.underlying3 g3_3
  simp only [List.cons.injEq, and_true] at e3_3
  subst e3_3
  obtain ⟨_, g3_4⟩ := f3 4 _ rfl
  simp only [List.getElem_toArray, List.getElem_cons_zero, List.getElem_cons_succ] at g3_4
  rw [cells3] at g3_4
  simp only [List.drop_zero, List.drop_succ_cons, List.take_succ_cons, List.take_zero] at g3_4
  obtain ⟨x3_4, e3_4, w3_4⟩ := rd_int Try.underlying3 g3_4
  simp only [List.cons.injEq, and_true] at e3_4
  subst e3_4
  obtain ⟨_, g3_5⟩ := f3 5 _ rfl
  simp only [List.getElem_toArray, List.getElem_cons_zero, List.getElem_cons_succ] at g3_5
  rw [cells3] at g3_5
  simp only [List.drop_zero, List.drop_succ_cons, List.take_succ_cons, List.take_zero] at g3_5
  obtain ⟨x3_5, e3_5, w3_5⟩ := rd_int Try.underlying3 g3_5
  simp only [List.cons.injEq, and_true] at e3_5
  subst e3_5
  obtain ⟨_, g3_6⟩ := f3 6 _ rfl
  simp only [List.getElem_toArray, List.getElem_cons_zero, List.getElem_cons_succ] at g3_6
  rw [cells2] at g3_6
  simp only [List.drop_zero, List.drop_succ_cons, List.take_succ_cons, List.take_zero] at g3_6
  obtain ⟨x3_6, e3_6, w3_6⟩ := rd_int Try.underlying2 g3_6
  simp only [List.cons.injEq, and_true] at e3_6
  subst e3_6
  obtain ⟨_, g3_7⟩ := f3 7 _ rfl
  simp only [List.getElem_toArray, List.getElem_cons_zero, List.getElem_cons_succ] at g3_7
  rw [cells2] at g3_7
  simp only [List.drop_zero, List.drop_succ_cons, List.take_succ_cons, List.take_zero] at g3_7
  obtain ⟨x3_7, e3_7, w3_7⟩ := rd_int Try.underlying2 g3_7
  simp only [List.cons.injEq, and_true] at e3_7
  subst e3_7
  have k4 := h4
  have lt4 : ∀ x ∈ p4, x.block < W.heap.size := by obtain ⟨m, hm⟩ := k4; exact DataW.trod_lt m _ _ _ hm
  obtain ⟨u4, rfl⟩ := okWide_int Try.underlying41 (hval 4 41 v4 rfl rfl)
  obtain ⟨fu4, hf4⟩ := h4
  simp only [Value.cells] at hf4
  obtain ⟨x4, e4, w4⟩ := rd_int Try.underlying41 hf4
  simp only [List.cons.injEq, and_true, true_and, Value.int.injEq] at e4
  obtain rfl := e4
  clear hA0
  refine (doorSame_walk W x0_0 w0_0 x0_1 w0_1 a0_2 c0_2 z0_2 l0_2 s0_2 w0_2 x1_0 w1_0 x1_1 w1_1 x1_2 w1_2 x1_3 w1_3 x1_4_0 w1_4_0 x1_4_1 w1_4_1 x1_4_2 w1_4_2 x1_5_0 w1_5_0 x1_5_1 w1_5_1 x1_5_2 w1_5_2 x1_5_3 w1_5_3 x1_5_4 w1_5_4 x1_5_5 w1_5_5 u2 w2 x3_0 w3_0 x3_1 w3_1 x3_2 w3_2 x3_3 w3_3 x3_4 w3_4 x3_5 w3_5 x3_6 w3_6 x3_7 w3_7 u4 w4).mono fun e W' ⟨he, bel⟩ => ?_
  subst he
  exact ⟨_, rfl, _, _, _, [], _, [], hW', trodAll_mk1 (shut_bool Try.underlying4 _), (trodAll_cons_mk (Below.trod laidOut (by kernel_rfl) (of_decide_eq_true (by kernel_rfl)) k0 bel lt0) (trodAll_cons_mk (Below.trod laidOut (by kernel_rfl) (of_decide_eq_true (by kernel_rfl)) k1 bel lt1) (trodAll_cons_mk (Below.trod laidOut (by kernel_rfl) (of_decide_eq_true (by kernel_rfl)) k2 bel lt2) (trodAll_cons_mk (Below.trod laidOut (by kernel_rfl) (of_decide_eq_true (by kernel_rfl)) k3 bel lt3) (trodAll_cons_mk (Below.trod laidOut (by kernel_rfl) (of_decide_eq_true (by kernel_rfl)) k4 bel lt4) trodAll_mk0))))), rfl, bel.frame _, fun h => by cases h⟩

noncomputable def laidWorld (os : Os) : World := World.holding Try.prog os ⟨#[], #[], []⟩
theorem laid_met (os : Os) : laidMet Try.prog Rows.doorSameRow.laid ((laidWorld os).forCall (fun _ _ => 0) ⟨#[], #[.agg #[.int .i64 0, .int .i64 0, .slice none 0 0], .agg #[.int .i64 0, .int .i64 0, .int .i64 0, .int .i64 0, .int .i64 0, .int .i64 0, .int .i64 0, .int .u64 0, .int .u64 0, .int .u64 0, .int .u64 0, .int .u64 0, .int .u64 0], .int .i64 0, .agg #[.int .i64 0, .int .i64 0, .int .i64 0, .int .i64 0, .int .i64 0, .int .i64 0, .int .i64 0, .int .i64 0], .int .u64 0], []⟩).memory :=
  laidMet_of_run' 8 (by kernel_rfl) (by kernel_rfl)
theorem reads (os : Os) {H : Type} (enc : TypeId × Value → H) : ∃ places, DataW.whole enc Try.prog ((laidWorld os).forCall (fun _ _ => 0) ⟨#[], #[.agg #[.int .i64 0, .int .i64 0, .slice none 0 0], .agg #[.int .i64 0, .int .i64 0, .int .i64 0, .int .i64 0, .int .i64 0, .int .i64 0, .int .i64 0, .int .u64 0, .int .u64 0, .int .u64 0, .int .u64 0, .int .u64 0, .int .u64 0], .int .i64 0, .agg #[.int .i64 0, .int .i64 0, .int .i64 0, .int .i64 0, .int .i64 0, .int .i64 0, .int .i64 0, .int .i64 0], .int .u64 0], []⟩).memory Try.f7.params.toList Rows.doorSameSpec.vars false (#[.agg #[.int .i64 0, .int .i64 0, .slice none 0 0], .agg #[.int .i64 0, .int .i64 0, .int .i64 0, .int .i64 0, .int .i64 0, .int .i64 0, .int .i64 0, .int .u64 0, .int .u64 0, .int .u64 0, .int .u64 0, .int .u64 0, .int .u64 0], .int .i64 0, .agg #[.int .i64 0, .int .i64 0, .int .i64 0, .int .i64 0, .int .i64 0, .int .i64 0, .int .i64 0, .int .i64 0], .int .u64 0] : Array Value).toList 8 = some ([.agg [.lit (.int .i64 0), .lit (.int .i64 0), .nil], .agg [.lit (.int .i64 0), .lit (.int .i64 0), .lit (.int .i64 0), .lit (.int .i64 0), .agg [.lit (.int .i64 0), .lit (.int .i64 0), .lit (.int .i64 0)], .agg [.lit (.int .u64 0), .lit (.int .u64 0), .lit (.int .u64 0), .lit (.int .u64 0), .lit (.int .u64 0), .lit (.int .u64 0)]], .lit (.int .i64 0), .agg [.lit (.int .i64 0), .lit (.int .i64 0), .lit (.int .i64 0), .lit (.int .i64 0), .lit (.int .i64 0), .lit (.int .i64 0), .lit (.int .i64 0), .lit (.int .i64 0)], .lit (.int .u64 0)], [], places) :=
  ⟨[], by kernel_rfl⟩

set_option maxRecDepth 100000 in
theorem lifted (os : Os) (started : os.Started) (H : Type) (enc : TypeId × Value → H) (F : Stop.Interp) :
    ReturnsInHanded {} Try.checked os 7 .any ((OpenSpec.ofChange Rows.doorSameSpec).preRow enc Try.prog Try.f7 Rows.doorSameRow.domain false Rows.doorSameRow.laid) (((OpenSpec.ofChange Rows.doorSameSpec).at F).post enc Try.prog Try.f7 false true false false) := by
  obtain ⟨places, hx⟩ := reads os enc
  refine returnsInHanded_of_row (C := Try.checked) (s := (OpenSpec.ofChange Rows.doorSameSpec)) own started (by kernel_rfl) Try.func7
    (witness_row_at (enc := enc) (C := Try.checked) false (laidWorld os) #[.agg #[.int .i64 0, .int .i64 0, .slice none 0 0], .agg #[.int .i64 0, .int .i64 0, .int .i64 0, .int .i64 0, .int .i64 0, .int .i64 0, .int .i64 0, .int .u64 0, .int .u64 0, .int .u64 0, .int .u64 0, .int .u64 0, .int .u64 0], .int .i64 0, .agg #[.int .i64 0, .int .i64 0, .int .i64 0, .int .i64 0, .int .i64 0, .int .i64 0, .int .i64 0, .int .i64 0], .int .u64 0] rfl (by kernel_rfl) (by kernel_rfl) (by kernel_rfl)
      (OpenSpec.preRow_of_cond 8 hx (by kernel_rfl) (fun k hk => by cases hk) (by kernel_rfl) (laid_met os))) ?_
  intro W base args ds gs before hval hW _ hcond _ hL hSh _
  exact contract H enc W base args ds gs before hval hW hL hSh

theorem said : Rows.DoorSameSaid :=
  OpenClaim.holds_of_cond 7 Try.f7 rfl rfl rfl rfl rfl rfl rfl ⟨rfl, rfl, rfl, rfl, rfl⟩ rfl rfl rfl rfl rfl (by kernel_rfl) Try.func7 (by kernel_rfl)
    (of_decide_eq_true (by kernel_rfl)) (by unfold Func.isWrapper; first | (rw [if_pos (by decide +kernel)]; kernel_rfl) | (rw [if_neg (by decide +kernel)]; exact ⟨rfl, rfl⟩))
    (fun os started H enc _ F => by rw [OpenClaim.pre_eq_preRow]; exact lifted os started H enc F)

end Go.Proofs.Ytafenndokmccoaa.doorSame
namespace Go.Proofs.Ytafenndokmccoaa
/-- the statement, under a short name for the claim -/
theorem doorSame_holds : Rows.DoorSameSaid := doorSame.said
end Go.Proofs.Ytafenndokmccoaa
