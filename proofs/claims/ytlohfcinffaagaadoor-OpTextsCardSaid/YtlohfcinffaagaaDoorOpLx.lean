/- The statement OpTexts. -/
import Derived.Test.YtlohfcinffaagaaDoorOpLu0
import Derived.Test.YtlohfcinffaagaaDoorQOp8
namespace Go.Proofs.YtlohfcinffaagaaDoor
open Go.RowKit Go.Proofs.YtlohfcinffaagaaDoorW.PrintWords Go.Proofs.YtlohfcinffaagaaDoorQ.Op
set_option linter.unusedVariables false
set_option linter.unusedSimpArgs false

theorem refText_f (o : OpN) (hf : fitB o = true) : lapidaryref08_Text.f o.k o.a o.b o.c o.f o.s o.x o.y = some (textO o) := by
  unfold lapidaryref08_Text.f
  rw [if_pos hf]
theorem opTexts_loop (xs : List S35) (hl : xs.length ≤ 60) (hw : ∀ z ∈ xs, fitS z) : ∀ (d k j : Nat), xs.length - j = d → j ≤ xs.length → 1 + d ≤ k → lapidarylaw08_OpTexts.l0 k xs (j : Int) = some true
  | 0, k, j, hd, hj, hk => by
    obtain ⟨k, rfl⟩ : ∃ m, k = m + 1 := ⟨k - 1, by omega⟩
    simp only [lapidarylaw08_OpTexts.l0]
    rw [if_neg (by omega), works_f]
    rfl
  | d + 1, k, j, hd, hj, hk => by
    obtain ⟨m, rfl⟩ : ∃ m, k = m + 1 := ⟨k - 1, by omega⟩
    have hlt : j < xs.length := by omega
    have ih := opTexts_loop xs hl hw d m (j + 1) (by omega) (by omega) (by omega)
    have hf := fitS_of (hw _ (List.getElem_mem hlt))
    simp only [lapidarylaw08_OpTexts.l0]
    rw [if_pos (by omega), if_pos (by omega), rd35 xs j hlt]
    obtain ⟨o, ho⟩ : ∃ o, opS xs[j] = o := ⟨_, rfl⟩
    rw [ho] at hf
    have h1 : op_Text.f xs[j].f0 xs[j].f1 xs[j].f2 xs[j].f3 xs[j].f4 xs[j].f5 xs[j].f6 xs[j].f7 = some (textS o, toldE o) := by
      rw [← ho] at hf ⊢
      exact text_f _ _ _ _ _ _ _ _ hf
    have h2 : lapidaryref08_Bare.f xs[j].f0 xs[j].f1 xs[j].f2 xs[j].f3 xs[j].f4 xs[j].f5 xs[j].f6 xs[j].f7 = some (bareB o) := by
      rw [← ho]
      exact bare_f (opS xs[j])
    have h3 : lapidaryref08_Text.f xs[j].f0 xs[j].f1 xs[j].f2 xs[j].f3 xs[j].f4 xs[j].f5 xs[j].f6 xs[j].f7 = some (textO o) := by
      rw [← ho] at hf ⊢
      exact refText_f (opS xs[j]) hf
    have e0 : xs[j].f0 = o.k ∧ xs[j].f1 = o.a ∧ xs[j].f2 = o.b ∧ xs[j].f3 = o.c ∧ xs[j].f4 = o.f ∧ xs[j].f5 = o.s ∧ xs[j].f6 = o.x ∧ xs[j].f7 = o.y := by
      rw [← ho]; exact ⟨rfl, rfl, rfl, rfl, rfl, rfl, rfl, rfl⟩
    obtain ⟨e0, e1, e2, e3, e4, e5, e6, e7⟩ := e0
    rw [h1, h2, h3]
    rw [e0, e1, e2, e3, e4, e5, e6, e7]
    simp only [Option.bind_some, lapidarylaw08_num.f]
    rcases toldE_cases o with ⟨b1, t1⟩ | ⟨b1, t1⟩
    · have hx : textS o = textO o := by unfold textS; rw [b1]; rfl
      have hr := opRead_some (textO_size o hf) (textO_read b1 hf)
      rw [b1, if_pos (by trivial), hx, hr]
      simp only [Option.bind_some, if_true]
      rw [t1, if_pos (by decide +kernel), if_neg (by simp), wr1 hlt (by omega)]
      exact ih
    · have hx : textS o = ⟨#[]⟩ := by unfold textS; rw [b1]; rfl
      rw [b1, if_neg Bool.false_ne_true, hx, if_pos (by rw [ByteArray.toList_eq]), t1]
      simp only [if_true]
      rw [wr1 hlt (by omega)]
      exact ih
theorem opTexts_pure (xs : List S35) (hw : ∀ z ∈ xs, fitS z) : ∃ k, lapidarylaw08_OpTexts.f k xs = some true := by
  refine ⟨1 + xs.length, ?_⟩
  unfold lapidarylaw08_OpTexts.f
  by_cases h : (xs.length : Int) > 60
  · rw [if_pos h, works_f]; rfl
  · rw [if_neg h]
    exact opTexts_loop xs (by omega) hw xs.length _ 0 rfl (by omega) (by omega)
theorem opTexts_walk (w : World) (a : Option Addr) (c : Nat) (zs : List S35) (hl : zs.length ≤ maxLen ∧ zs.length ≤ c) (hs : Kd.C k35 w a zs.length zs) (hw : ∀ z ∈ zs, fitS z) (hT : WOk w) :
    Calls Tryd.prog 6 #[.slice a zs.length c] w fun e w' => e = .returned (.bool true) ∧ Below w.heap.size w w' := by
  obtain ⟨k, hk⟩ := opTexts_pure zs hw
  exact lapidarylaw08_OpTexts.calls k a c zs true w hs hl.2 hk hT

end Go.Proofs.YtlohfcinffaagaaDoor
