/- The statement 'ClearClaims': for every input the law returns true, and its arguments read behind the call as they did. -/
import Derived.Test.YtafenndokmccoaaRows
import Derived.Test.YtafenndokmccoaaLiftKit
import Derived.Test.YtafenndokmccoaaClrZ
import Derived.Deep.DeepHandedRow
import Derived.Lib.LaidTab
import Derived.JoinedCond
namespace Go.Proofs.Ytafenndokmccoaa.clearClaims
open Go.ChangeShapes Go.WideShapes Go.ChangeAt Go.RowKit
set_option linter.unusedVariables false
set_option linter.unusedSimpArgs false
theorem own : ownKnob Try.prog.godebug = none := by kernel_rfl
theorem laidOut : laidOutB Try.prog = true := by kernel_rfl
theorem cells3 : Try.prog.cellsOf 3 = 1 := by kernel_rfl
theorem cells22 : Try.prog.cellsOf 22 = 1 := by kernel_rfl
theorem cells24 : Try.prog.cellsOf 24 = 3 := by kernel_rfl
theorem cells26 : Try.prog.cellsOf 26 = 4 := by kernel_rfl
theorem cells27 : Try.prog.cellsOf 27 = 1 := by kernel_rfl
theorem cells29 : Try.prog.cellsOf 29 = 8 := by kernel_rfl
theorem cells41 : Try.prog.cellsOf 41 = 1 := by kernel_rfl
theorem cells125 : Try.prog.cellsOf 125 = 1 := by kernel_rfl

set_option maxRecDepth 100000 in
theorem contract (H : Type) (enc : TypeId × Value → H) (W : World) (base : Nat) (args : Array Value) (ds gs : List (DataW H)) (before : List MemPlace)
    (hval : ∀ (j : Nat) t v, Try.f3.params[j]? = some t → args[j]? = some v → Value.okWide Try.prog W .any base t v)
    (hW : DataW.Whole enc Try.prog Try.f3.params.toList Rows.clearClaimsSpec.vars false W args.toList ds gs before) (hL : laidMetH Try.prog Rows.clearClaimsRow.laid W) (hSh : W.ShapedOpen Try.prog) :
    Calls Try.prog 3 args W fun e W' => ∃ v, e = .returned v ∧ Rows.clearClaimsSpec.post enc Try.prog Try.f3 false true false false W args v W' := by
  have hW' := hW
  obtain ⟨p, q, hA0, hV, rfl, hfz, hnd⟩ := hW
  have hA : DataW.TrodAll enc Try.prog W 0 (fun _ => true) true Try.f3.params.toList args.toList ds p := hA0
  rw [Try.params3] at hA hval
  obtain ⟨v0, vs0, d0, ds0, p0, q0, hargs, rfl, rfl, h0, r0⟩ := trodAll_cons hA
  obtain ⟨v1, vs1, d1, ds1, p1, q1, rfl, rfl, rfl, h1, r1⟩ := trodAll_cons r0
  obtain ⟨v2, vs2, d2, ds2, p2, q2, rfl, rfl, rfl, h2, r2⟩ := trodAll_cons r1
  obtain ⟨rfl, rfl, rfl⟩ := trodAll_nil r2
  obtain rfl : args = #[v0, v1, v2] := by cases args; simp_all
  obtain ⟨rfl, rfl⟩ := trodVars_none hV
  have k0 := h0
  have lt0 : ∀ x ∈ p0, x.block < W.heap.size := by obtain ⟨m, hm⟩ := k0; exact DataW.trod_lt m _ _ _ hm
  obtain ⟨cs0, rfl, hsz0⟩ := okWide_struct Try.underlying29 (hval 0 29 v0 rfl rfl)
  obtain ⟨cs0⟩ := cs0
  obtain ⟨fu0, hf0⟩ := h0
  simp only [Value.cells] at hf0
  obtain ⟨q0_0, q0_1, q0_2, q0_3, q0_4, q0_5, q0_6, q0_7, rfl⟩ := list8 (list_len hsz0 cells29)
  obtain ⟨n0, _, f0⟩ := rd_struct Try.underlying29 hf0
  obtain ⟨_, g0_0⟩ := f0 0 _ rfl
  simp only [List.getElem_toArray, List.getElem_cons_zero, List.getElem_cons_succ] at g0_0
  rw [cells24] at g0_0
  simp only [List.drop_zero, List.drop_succ_cons, List.take_succ_cons, List.take_zero] at g0_0
  obtain ⟨n0_0, _, f0_0⟩ := rd_struct Try.underlying24 g0_0
  obtain ⟨_, g0_0_0⟩ := f0_0 0 _ rfl
  simp only [List.getElem_toArray, List.getElem_cons_zero, List.getElem_cons_succ] at g0_0_0
  rw [cells3] at g0_0_0
  simp only [List.drop_zero, List.drop_succ_cons, List.take_succ_cons, List.take_zero] at g0_0_0
  obtain ⟨x0_0_0, e0_0_0, w0_0_0⟩ := rd_int Try.underlying3 g0_0_0
  simp only [List.cons.injEq, and_true] at e0_0_0
  subst e0_0_0
  obtain ⟨_, g0_0_1⟩ := f0_0 1 _ rfl
  simp only [List.getElem_toArray, List.getElem_cons_zero, List.getElem_cons_succ] at g0_0_1
  rw [cells3] at g0_0_1
  simp only [List.drop_zero, List.drop_succ_cons, List.take_succ_cons, List.take_zero] at g0_0_1
  obtain ⟨x0_0_1, e0_0_1, w0_0_1⟩ := rd_int Try.underlying3 g0_0_1
  simp only [List.cons.injEq, and_true] at e0_0_1
  subst e0_0_1
  obtain ⟨_, g0_0_2⟩ := f0_0 2 _ rfl
  simp only [List.getElem_toArray, List.getElem_cons_zero, List.getElem_cons_succ] at g0_0_2
  rw [cells22] at g0_0_2
  simp only [List.drop_zero, List.drop_succ_cons, List.take_succ_cons, List.take_zero] at g0_0_2
  obtain ⟨a0_0_2, c0_0_2, z0_0_2, e0_0_2, l0_0_2, s0_0_2, w0_0_2⟩ := rd_strsC Try.underlying22 Try.underlying125 cells125 rfl g0_0_2
  simp only [List.cons.injEq, and_true] at e0_0_2
  subst e0_0_2
  obtain ⟨_, g0_1⟩ := f0 1 _ rfl
  simp only [List.getElem_toArray, List.getElem_cons_zero, List.getElem_cons_succ] at g0_1
  rw [cells26] at g0_1
  simp only [List.drop_zero, List.drop_succ_cons, List.take_succ_cons, List.take_zero] at g0_1
  obtain ⟨n0_1, _, f0_1⟩ := rd_struct Try.underlying26 g0_1
  obtain ⟨_, g0_1_0⟩ := f0_1 0 _ rfl
  simp only [List.getElem_toArray, List.getElem_cons_zero, List.getElem_cons_succ] at g0_1_0
  rw [cells3] at g0_1_0
  simp only [List.drop_zero, List.drop_succ_cons, List.take_succ_cons, List.take_zero] at g0_1_0
  obtain ⟨x0_1_0, e0_1_0, w0_1_0⟩ := rd_int Try.underlying3 g0_1_0
  simp only [List.cons.injEq, and_true] at e0_1_0
  subst e0_1_0
  obtain ⟨_, g0_1_1⟩ := f0_1 1 _ rfl
  simp only [List.getElem_toArray, List.getElem_cons_zero, List.getElem_cons_succ] at g0_1_1
  rw [cells3] at g0_1_1
  simp only [List.drop_zero, List.drop_succ_cons, List.take_succ_cons, List.take_zero] at g0_1_1
  obtain ⟨x0_1_1, e0_1_1, w0_1_1⟩ := rd_int Try.underlying3 g0_1_1
  simp only [List.cons.injEq, and_true] at e0_1_1
  subst e0_1_1
  obtain ⟨_, g0_1_2⟩ := f0_1 2 _ rfl
  simp only [List.getElem_toArray, List.getElem_cons_zero, List.getElem_cons_succ] at g0_1_2
  rw [cells3] at g0_1_2
  simp only [List.drop_zero, List.drop_succ_cons, List.take_succ_cons, List.take_zero] at g0_1_2
  obtain ⟨x0_1_2, e0_1_2, w0_1_2⟩ := rd_int Try.underlying3 g0_1_2
  simp only [List.cons.injEq, and_true] at e0_1_2
  subst e0_1_2
  obtain ⟨_, g0_1_3⟩ := f0_1 3 _ rfl
  simp only [List.getElem_toArray, List.getElem_cons_zero, List.getElem_cons_succ] at g0_1_3
  rw [cells3] at g0_1_3
  simp only [List.drop_zero, List.drop_succ_cons, List.take_succ_cons, List.take_zero] at g0_1_3
  obtain ⟨x0_1_3, e0_1_3, w0_1_3⟩ := rd_int Try.underlying3 g0_1_3
  simp only [List.cons.injEq, and_true] at e0_1_3
  subst e0_1_3
  obtain ⟨_, g0_2⟩ := f0 2 _ rfl
  simp only [List.getElem_toArray, List.getElem_cons_zero, List.getElem_cons_succ] at g0_2
  rw [cells27] at g0_2
  simp only [List.drop_zero, List.drop_succ_cons, List.take_succ_cons, List.take_zero] at g0_2
  obtain ⟨a0_2, c0_2, z0_2, e0_2, l0_2, s0_2, w0_2⟩ := rd_intsN Try.underlying27 Try.underlying41 cells41 rfl g0_2
  simp only [List.cons.injEq, and_true] at e0_2
  subst e0_2
  have k1 := h1
  have lt1 : ∀ x ∈ p1, x.block < W.heap.size := by obtain ⟨m, hm⟩ := k1; exact DataW.trod_lt m _ _ _ hm
  obtain ⟨u1, rfl⟩ := okWide_int Try.underlying3 (hval 1 3 v1 rfl rfl)
  obtain ⟨fu1, hf1⟩ := h1
  simp only [Value.cells] at hf1
  obtain ⟨x1, e1, w1⟩ := rd_int Try.underlying3 hf1
  simp only [List.cons.injEq, and_true, true_and, Value.int.injEq] at e1
  obtain rfl := e1
  have k2 := h2
  have lt2 : ∀ x ∈ p2, x.block < W.heap.size := by obtain ⟨m, hm⟩ := k2; exact DataW.trod_lt m _ _ _ hm
  obtain ⟨aa2, ll2, cc2, rfl⟩ := okWide_slice Try.underlying30 (hval 2 30 v2 rfl rfl)
  obtain ⟨fu2, hf2⟩ := h2
  simp only [Value.cells] at hf2
  obtain ⟨a2, c2, z2, e2, l2, s2, w2⟩ := rd_sl51 rfl hf2
  simp only [List.cons.injEq, and_true, true_and, Value.slice.injEq] at e2
  obtain ⟨rfl, rfl, rfl⟩ := e2
  clear hA0
  refine (clearClaims_walk W x0_0_0 w0_0_0 x0_0_1 w0_0_1 a0_0_2 c0_0_2 z0_0_2 l0_0_2 s0_0_2 w0_0_2 x0_1_0 w0_1_0 x0_1_1 w0_1_1 x0_1_2 w0_1_2 x0_1_3 w0_1_3 a0_2 c0_2 z0_2 l0_2 s0_2 w0_2 u1 w1 aa2 cc2 z2 l2 s2 w2).mono fun e W' ⟨he, bel⟩ => ?_
  subst he
  exact ⟨_, rfl, _, _, _, [], _, [], hW', trodAll_mk1 (shut_bool Try.underlying4 _), (trodAll_cons_mk (Below.trod laidOut (by kernel_rfl) (of_decide_eq_true (by kernel_rfl)) k0 bel lt0) (trodAll_cons_mk (Below.trod laidOut (by kernel_rfl) (of_decide_eq_true (by kernel_rfl)) k1 bel lt1) (trodAll_cons_mk (Below.trod laidOut (by kernel_rfl) (of_decide_eq_true (by kernel_rfl)) k2 bel lt2) trodAll_mk0))), rfl, bel.frame _, fun h => by cases h⟩

noncomputable def laidWorld (os : Os) : World := World.holding Try.prog os ⟨#[], #[], []⟩
theorem laid_met (os : Os) : laidMet Try.prog Rows.clearClaimsRow.laid ((laidWorld os).forCall (fun _ _ => 0) ⟨#[], #[.agg #[.int .i64 0, .int .i64 0, .slice none 0 0, .int .i64 0, .int .i64 0, .int .i64 0, .int .i64 0, .slice none 0 0], .int .i64 0, .slice none 0 0], []⟩).memory :=
  laidMet_of_run' 8 (by kernel_rfl) (by kernel_rfl)
theorem reads (os : Os) {H : Type} (enc : TypeId × Value → H) : ∃ places, DataW.whole enc Try.prog ((laidWorld os).forCall (fun _ _ => 0) ⟨#[], #[.agg #[.int .i64 0, .int .i64 0, .slice none 0 0, .int .i64 0, .int .i64 0, .int .i64 0, .int .i64 0, .slice none 0 0], .int .i64 0, .slice none 0 0], []⟩).memory Try.f3.params.toList Rows.clearClaimsSpec.vars false (#[.agg #[.int .i64 0, .int .i64 0, .slice none 0 0, .int .i64 0, .int .i64 0, .int .i64 0, .int .i64 0, .slice none 0 0], .int .i64 0, .slice none 0 0] : Array Value).toList 8 = some ([.agg [.agg [.lit (.int .i64 0), .lit (.int .i64 0), .nil], .agg [.lit (.int .i64 0), .lit (.int .i64 0), .lit (.int .i64 0), .lit (.int .i64 0)], .nil], .lit (.int .i64 0), .nil], [], places) :=
  ⟨[], by kernel_rfl⟩

set_option maxRecDepth 100000 in
theorem lifted (os : Os) (started : os.Started) (H : Type) (enc : TypeId × Value → H) (F : Stop.Interp) :
    ReturnsInHanded {} Try.checked os 3 .any ((OpenSpec.ofChange Rows.clearClaimsSpec).preRow enc Try.prog Try.f3 Rows.clearClaimsRow.domain false Rows.clearClaimsRow.laid) (((OpenSpec.ofChange Rows.clearClaimsSpec).at F).post enc Try.prog Try.f3 false true false false) := by
  obtain ⟨places, hx⟩ := reads os enc
  refine returnsInHanded_of_row (C := Try.checked) (s := (OpenSpec.ofChange Rows.clearClaimsSpec)) own started (by kernel_rfl) Try.func3
    (witness_row_at (enc := enc) (C := Try.checked) false (laidWorld os) #[.agg #[.int .i64 0, .int .i64 0, .slice none 0 0, .int .i64 0, .int .i64 0, .int .i64 0, .int .i64 0, .slice none 0 0], .int .i64 0, .slice none 0 0] rfl (by kernel_rfl) (by kernel_rfl) (by kernel_rfl)
      (OpenSpec.preRow_of_cond 8 hx (by kernel_rfl) (fun k hk => by cases hk) (by kernel_rfl) (laid_met os))) ?_
  intro W base args ds gs before hval hW _ hcond _ hL hSh _
  exact contract H enc W base args ds gs before hval hW hL hSh

theorem said : Rows.ClearClaimsSaid :=
  OpenClaim.holds_of_cond 3 Try.f3 rfl rfl rfl rfl rfl rfl rfl ⟨rfl, rfl, rfl, rfl, rfl⟩ rfl rfl rfl rfl rfl (by kernel_rfl) Try.func3 (by kernel_rfl)
    (of_decide_eq_true (by kernel_rfl)) (by unfold Func.isWrapper; first | (rw [if_pos (by decide +kernel)]; kernel_rfl) | (rw [if_neg (by decide +kernel)]; exact ⟨rfl, rfl⟩))
    (fun os started H enc _ F => by rw [OpenClaim.pre_eq_preRow]; exact lifted os started H enc F)

end Go.Proofs.Ytafenndokmccoaa.clearClaims
namespace Go.Proofs.Ytafenndokmccoaa
/-- the statement, under a short name for the claim -/
theorem clearClaims_holds : Rows.ClearClaimsSaid := clearClaims.said
end Go.Proofs.Ytafenndokmccoaa
