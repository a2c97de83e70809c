/- The statement OpUnlike. -/
import Derived.Test.YtlohfcinffaagaaDoorOpLu0
import Derived.Test.YtlohfcinffaagaaDoorQOp11
import Derived.Test.YtlohfcinffaagaaDoorLiftKit
namespace Go.Proofs.YtlohfcinffaagaaDoor
open Go.RowKit Go.Proofs.YtlohfcinffaagaaDoorW.PrintWords Go.Proofs.YtlohfcinffaagaaDoorQ.Op
set_option linter.unusedVariables false
set_option linter.unusedSimpArgs false

def eqO (o p : OpN) : Bool := o.k == p.k && (o.a == p.a && (o.b == p.b && (o.c == p.c && (o.f == p.f && (o.s == p.s && (o.x == p.x && o.y == p.y))))))
theorem eqO_iff (o p : OpN) : eqO o p = true ↔ o = p := by
  obtain ⟨k, a, b, c, f, s, x, y⟩ := o
  obtain ⟨k', a', b', c', f', s', x', y'⟩ := p
  unfold eqO
  simp
theorem opUnlike_pure (o p : OpN) (ho : fitB o = true) (hp : fitB p = true) : lapidarylaw08_OpUnlike.f o.k o.a o.b o.c o.f o.s o.x o.y p.k p.a p.b p.c p.f p.s p.x p.y = some true := by
  unfold lapidarylaw08_OpUnlike.f
  rw [text_f _ _ _ _ _ _ _ _ ho, text_f _ _ _ _ _ _ _ _ hp, works_f]
  simp only [Option.bind_some, lapidarylaw08_num.f]
  have e0 : ∀ o : OpN, (⟨o.k, o.a, o.b, o.c, o.f, o.s, o.x, o.y⟩ : OpN) = o := fun o => rfl
  rw [e0 o, e0 p]
  rcases toldE_cases o with ⟨b1, t1⟩ | ⟨b1, t1⟩
  · rcases toldE_cases p with ⟨b2, t2⟩ | ⟨b2, t2⟩
    · rw [t1, t2, if_pos (by decide +kernel)]
      have hx : textS o = textO o := by unfold textS; rw [b1]; rfl
      have hy : textS p = textO p := by unfold textS; rw [b2]; rfl
      rw [hx, hy]
      have h : (((textO o).toList == (textO p).toList) == eqO o p) = true := by
        by_cases e : o = p
        · subst e
          rw [(eqO_iff o o).2 rfl]
          simp
        · have e1 : eqO o p = false := by
            cases h : eqO o p with
            | false => rfl
            | true => exact absurd ((eqO_iff o p).1 h) e
          have e2 : ((textO o).toList == (textO p).toList) = false := beq_eq_false_iff_ne.2 fun h => e (textO_inj b1 ho b2 hp (bytes_inj' (by rw [ByteArray.toList_eq, ByteArray.toList_eq] at h; exact h)))
          rw [e1, e2]
          rfl
      exact if_pos h
    · rw [t1, t2, if_neg (by decide +kernel)]
  · rcases toldE_cases p with ⟨b2, t2⟩ | ⟨b2, t2⟩
    · rw [t1, t2, if_neg (by decide +kernel)]
    · rw [t1, t2, if_neg (by decide +kernel)]

theorem opUnlike_walk (w : World) (k : Int) (_ : (Lit.int .i64 k).wf = true) (a : Int) (h1 : (Lit.int .i64 a).wf = true) (b : Int) (h2 : (Lit.int .i64 b).wf = true) (c : Int) (h3 : (Lit.int .i64 c).wf = true) (f : Int) (h4 : (Lit.int .i64 f).wf = true) (s : Int) (h5 : (Lit.int .i64 s).wf = true) (x : Int) (h6 : (Lit.int .i64 x).wf = true) (y : Int) (h7 : (Lit.int .i64 y).wf = true)
    (k' : Int) (_ : (Lit.int .i64 k').wf = true) (a' : Int) (h1' : (Lit.int .i64 a').wf = true) (b' : Int) (h2' : (Lit.int .i64 b').wf = true) (c' : Int) (h3' : (Lit.int .i64 c').wf = true) (f' : Int) (h4' : (Lit.int .i64 f').wf = true) (s' : Int) (h5' : (Lit.int .i64 s').wf = true) (x' : Int) (h6' : (Lit.int .i64 x').wf = true) (y' : Int) (h7' : (Lit.int .i64 y').wf = true) (hT : WOk w) :
    Calls Tryd.prog 8 #[.agg #[.int .i64 k, .int .i64 a, .int .i64 b, .int .i64 c, .int .i64 f, .int .i64 s, .int .i64 x, .int .i64 y], .agg #[.int .i64 k', .int .i64 a', .int .i64 b', .int .i64 c', .int .i64 f', .int .i64 s', .int .i64 x', .int .i64 y']] w fun e w' => e = .returned (.bool true) ∧ Below w.heap.size w w' :=
  lapidarylaw08_OpUnlike.calls k a b c f s x y k' a' b' c' f' s' x' y' true w
    (opUnlike_pure ⟨k, a, b, c, f, s, x, y⟩ ⟨k', a', b', c', f', s', x', y'⟩ (fits_mk ⟨wf_i64 h1, wf_i64 h2, wf_i64 h3, wf_i64 h4, wf_i64 h5, wf_i64 h6, wf_i64 h7⟩) (fits_mk ⟨wf_i64 h1', wf_i64 h2', wf_i64 h3', wf_i64 h4', wf_i64 h5', wf_i64 h6', wf_i64 h7'⟩)) hT

end Go.Proofs.YtlohfcinffaagaaDoor
