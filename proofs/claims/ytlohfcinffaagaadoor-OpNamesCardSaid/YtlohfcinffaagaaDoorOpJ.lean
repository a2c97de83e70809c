/- The layer 'op': its texts and what it reads, law by law. -/
import Derived.Test.YtlohfcinffaagaaDoorOpW
import Derived.Test.YtlohfcinffaagaaDoorOpI
namespace Go.Proofs.YtlohfcinffaagaaDoor
open Go.RowKit
set_option linter.unusedVariables false
set_option linter.unusedSimpArgs false

theorem fits_of {o : OpN} (h : fitB o = true) : Fits o := by
  unfold fitB at h
  simp only [Bool.and_eq_true] at h
  obtain ⟨h1, h2, h3, h4, h5, h6, h7⟩ := h
  exact ⟨i64_of h1, i64_of h2, i64_of h3, i64_of h4, i64_of h5, i64_of h6, i64_of h7⟩
theorem i64_mk {x : Int} (h : InI x) : i64B x = true := by unfold i64B; simpa [InI] using h
theorem fits_mk {o : OpN} (h : Fits o) : fitB o = true := by
  unfold fitB
  rw [i64_mk h.a, i64_mk h.b, i64_mk h.c, i64_mk h.f, i64_mk h.s, i64_mk h.x, i64_mk h.y]
  rfl
theorem textO_data (o : OpN) : (textO o).data.toList = Lib.join (piecesL o) [32] := by
  unfold textO piecesO piecesL
  rw [List.take_of_length_le (Nat.le_refl _)]
  simp [numS, Function.comp_def]
theorem textO_read {o : OpN} (hb : bareB o = true) (hf : fitB o = true) : readO (splitSp (textO o).data.toList) = some o := by
  rw [textO_data]
  exact text_read o hb (fits_of hf)
theorem readOp_of {s : ByteArray} {o : OpN} (h : readO (splitSp s.data.toList) = some o) : readOp s = o ∧ readErr s = 0 := by
  unfold readOp readErr
  rw [h]
  exact ⟨rfl, rfl⟩
theorem readOp_no {s : ByteArray} (h : readO (splitSp s.data.toList) = none) : readOp s = OpN.only 0 ∧ readErr s = 186 := by
  unfold readOp readErr
  rw [h]
  exact ⟨rfl, rfl⟩
theorem read_some {s : ByteArray} {o : OpN} (h : readO (splitSp s.data.toList) = some o) : bareB o = true ∧ fitB o = true ∧ textO o = s := by
  obtain ⟨h1, h2, h3⟩ := read_text _ _ h
  exact ⟨h1, fits_mk h2, bytes_inj' (by rw [textO_data]; exact h3)⟩
theorem textO_inj {o p : OpN} (hb : bareB o = true) (hf : fitB o = true) (hb' : bareB p = true) (hf' : fitB p = true) (h : textO o = textO p) : o = p := by
  have h1 := textO_read hb hf
  have h2 := textO_read hb' hf'
  rw [h] at h1
  exact Option.some.inj (h1.symm.trans h2)
theorem textO_size (o : OpN) (hf : fitB o = true) : (textO o).size ≤ 1000 := by
  have hF := fit_of hf
  have hpl := piecesO_len o (opNames o.k).length (Nat.le_refl _)
  have hnl := names_len o.k
  have hsm : ∀ x ∈ (piecesO o (opNames o.k).length).map (·.data.toList), x.length ≤ 30 := by
    intro x hx
    obtain ⟨s, hs, rfl⟩ := List.mem_map.1 hx
    unfold piecesO at hs
    rcases List.mem_cons.1 hs with rfl | hs
    · have := opName_small o.k
      show (opName o.k).data.toList.length ≤ 30
      rw [Array.length_toList]
      exact Nat.le_trans this (by decide)
    · obtain ⟨m, _, rfl⟩ := List.mem_map.1 hs
      have := numS_len (o.get m) (hF m).1 (hF m).2
      show (numS (o.get m)).data.toList.length ≤ 30
      rw [Array.length_toList]
      exact this
  have hjl := join_small _ 30 hsm
  simp only [List.length_map] at hjl
  unfold textO
  show (Lib.join _ [32]).toArray.size ≤ 1000
  rw [List.size_toArray]
  omega
theorem only_bare : bareB (OpN.only 0) = false := by decide
theorem only_fit : fitB (OpN.only 0) = true := by decide
theorem toldE_cases (o : OpN) : (bareB o = true ∧ toldE o = 0) ∨ (bareB o = false ∧ toldE o = 180) := by
  unfold toldE
  cases bareB o with
  | true => exact .inl ⟨rfl, rfl⟩
  | false => exact .inr ⟨rfl, rfl⟩

end Go.Proofs.YtlohfcinffaagaaDoor
