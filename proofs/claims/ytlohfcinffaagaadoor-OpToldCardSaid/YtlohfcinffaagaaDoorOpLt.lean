/- The statement OpTold. -/
import Derived.Test.YtlohfcinffaagaaDoorOpLu0
import Derived.Test.YtlohfcinffaagaaDoorQOp7
namespace Go.Proofs.YtlohfcinffaagaaDoor
open Go.RowKit Go.Proofs.YtlohfcinffaagaaDoorW.PrintWords Go.Proofs.YtlohfcinffaagaaDoorQ.Op
set_option linter.unusedVariables false
set_option linter.unusedSimpArgs false

theorem told1_t (l : List ByteArray) (k e : Int) (b : Bool) (v : Int) (y n : ByteArray) (hl : l = [n, y]) (m : Nat) : lapidaryref08_Told.j1 (m + 1) l k true e b v = some (pickS b y n, 0) := by
  subst hl
  cases b <;> simp [lapidaryref08_Told.j1, rdOf, pickS]
theorem refTold_f (o : OpN) (e : Int) (b : Bool) (v : Int) (he : i64B e = true) (hv : i64B v = true) (m : Nat) : lapidaryref08_Told.f (m + 2) o.k o.a o.b o.c o.f o.s o.x o.y e b v = some (toldS o e b v, toldE o) := by
  unfold lapidaryref08_Told.f
  rw [bare_f]
  simp only [Option.bind_some]
  cases hb : bareB o with
  | false =>
    rw [if_neg Bool.false_ne_true]
    unfold toldS toldE
    rw [hb, if_pos rfl, if_neg Bool.false_ne_true]
  | true =>
    have hE : toldE o = 0 := by unfold toldE; rw [hb]; rfl
    rw [if_pos rfl, hE]
    by_cases h0 : e = 0
    · subst h0
      rw [if_pos rfl, told0 b v hb]
      have hk : opIs o.k = true := by unfold bareB at hb; rw [Bool.and_eq_true] at hb; exact hb.1
      obtain ⟨k, a, b2, c, f, s, x, y⟩ := o
      simp only at hk ⊢
      have hn := number_f hv
      rcases kinds_of hk with rfl | rfl | rfl | rfl | rfl | rfl | rfl | rfl | rfl | rfl | rfl
      all_goals simp [lapidaryref08_Told.j0, lapidaryref08_Told.j1, pickS, rdOf, hn]
      all_goals cases b <;> rfl
    · rw [if_neg h0, number_f he]
      simp only [Option.bind_some]
      have hl := numS_len e (i64_of he).1 (i64_of he).2
      rw [if_pos (by omega)]
      unfold toldS
      rw [if_neg (by rw [hb]; decide), if_pos h0]
theorem told_f (o : OpN) (e : Int) (b : Bool) (v : Int) (he : i64B e = true) (hv : i64B v = true) : op_Told.f o.k o.a o.b o.c o.f o.s o.x o.y e b v = some (toldS o e b v, toldE o) := by
  unfold op_Told.f
  rw [if_pos ⟨he, hv⟩]
theorem opTold_loop (xs : List S35) (hl : xs.length ≤ 60) (e : Int) (b : Bool) (v : Int) (he : i64B e = true) (hv : i64B v = true) : ∀ (d k j : Nat), xs.length - j = d → j ≤ xs.length → 3 + d ≤ k → lapidarylaw08_OpTold.l0 k xs (j : Int) e b v = some true
  | 0, k, j, hd, hj, hk => by
    obtain ⟨k, rfl⟩ : ∃ m, k = m + 1 := ⟨k - 1, by omega⟩
    simp only [lapidarylaw08_OpTold.l0]
    rw [if_neg (by omega), works_f]
    rfl
  | d + 1, k, j, hd, hj, hk => by
    obtain ⟨k, rfl⟩ : ∃ m, k = m + 1 := ⟨k - 1, by omega⟩
    have hlt : j < xs.length := by omega
    have ih := opTold_loop xs hl e b v he hv d k (j + 1) (by omega) (by omega) (by omega)
    simp only [lapidarylaw08_OpTold.l0]
    rw [if_pos (by omega), if_pos (by omega), rd35 xs j hlt]
    have h1 := told_f (opS xs[j]) e b v he hv
    have h2 : lapidaryref08_Told.f k (opS xs[j]).k (opS xs[j]).a (opS xs[j]).b (opS xs[j]).c (opS xs[j]).f (opS xs[j]).s (opS xs[j]).x (opS xs[j]).y e b v = some (toldS (opS xs[j]) e b v, toldE (opS xs[j])) := by
      obtain ⟨m, rfl⟩ : ∃ m, k = m + 2 := ⟨k - 2, by omega⟩
      exact refTold_f (opS xs[j]) e b v he hv m
    simp only [opS] at h1 h2
    rw [h1, h2]
    simp only [Option.bind_some, lapidarylaw08_num.f, if_true]
    rw [wr1 hlt (by omega)]
    exact ih
theorem opTold_pure (xs : List S35) (e : Int) (b : Bool) (v : Int) (he : i64B e = true) (hv : i64B v = true) : ∃ k, lapidarylaw08_OpTold.f k xs e b v = some true := by
  refine ⟨3 + xs.length, ?_⟩
  unfold lapidarylaw08_OpTold.f
  by_cases h : (xs.length : Int) > 60
  · rw [if_pos h, works_f]; rfl
  · rw [if_neg h]
    exact opTold_loop xs (by omega) e b v he hv xs.length _ 0 rfl (by omega) (by omega)
theorem opTold_walk (w : World) (a : Option Addr) (c : Nat) (zs : List S35) (hl : zs.length ≤ maxLen ∧ zs.length ≤ c) (hs : Kd.C k35 w a zs.length zs) (_ : ∀ z ∈ zs, fitS z) (e : Int) (he : (Lit.int .i64 e).wf = true) (b : Bool) (v : Int) (hv : (Lit.int .i64 v).wf = true) (hT : WOk w) :
    Calls Tryd.prog 5 #[.slice a zs.length c, .agg #[.int .i64 e, .bool b, .int .i64 v]] w fun e w' => e = .returned (.bool true) ∧ Below w.heap.size w w' := by
  obtain ⟨k, hk⟩ := opTold_pure zs e b v (i64_mk (wf_i64 he)) (i64_mk (wf_i64 hv))
  exact lapidarylaw08_OpTold.calls k a c zs e b v true w hs hl.2 hk hT

end Go.Proofs.YtlohfcinffaagaaDoor
