/- The layer 'op' in the shape that the printed laws ask. -/
import Derived.Test.YtlohfcinffaagaaDoorOpT
import Derived.Test.YtlohfcinffaagaaDoorOpK
import Derived.Test.YtlohfcinffaagaaDoorOpQ
import Derived.Test.YtlohfcinffaagaaDoorOpX
import Derived.Test.YtlohfcinffaagaaDoorCut
namespace Go.Proofs.YtlohfcinffaagaaDoor
open Go.RowKit Go.Proofs.YtlohfcinffaagaaDoorW.PrintWords
set_option linter.unusedVariables false
set_option linter.unusedSimpArgs false

def i64B (x : Int) : Bool := decide (-9223372036854775808 ≤ x ∧ x ≤ 9223372036854775807)
theorem i64_of {x : Int} (h : i64B x = true) : -9223372036854775808 ≤ x ∧ x ≤ 9223372036854775807 := by unfold i64B at h; simpa using h
def fitB (o : OpN) : Bool := i64B o.a && (i64B o.b && (i64B o.c && (i64B o.f && (i64B o.s && (i64B o.x && i64B o.y)))))
theorem fit_of {o : OpN} (h : fitB o = true) : FitO o := by
  unfold fitB at h
  simp only [Bool.and_eq_true] at h
  obtain ⟨h1, h2, h3, h4, h5, h6, h7⟩ := h
  intro n
  unfold OpN.get
  repeat' split
  · exact i64_of h1
  · exact i64_of h2
  · exact i64_of h3
  · exact i64_of h4
  · exact i64_of h5
  · exact i64_of h6
  · exact i64_of h7
theorem slOf_kd {w : World} {A : Option Addr} {n : Nat} {l : List ByteArray} (h : Kd.C Kd.string w A n l) : SlOf w A (strV l) ∧ l.length = n ∧ n ≤ maxLen := by
  obtain ⟨h1, h2, h3⟩ := h
  refine ⟨?_, h1, h2⟩
  by_cases h0 : n = 0
  · subst h0
    exact .inl (by have := List.eq_nil_of_length_eq_zero h1; subst this; rfl)
  · obtain ⟨ad, rfl, hc⟩ := h3 (by omega)
    have hcell : ∀ j x, l[j]? = some x → w.cell? (ad.add j) = some (.string x) := by
      intro j x hx
      obtain ⟨c, hl, hr, hk⟩ := hc j x hx
      have hr' : c = [Value.string x] := hr
      have := hk 0 (.string x) (by rw [hr']; rfl)
      have e : j * Kd.string.sz + 0 = j := by show j * 1 + 0 = j; omega
      rwa [e] at this
    obtain ⟨b, o, s⟩ := ad
    have hx0 := hcell 0 l[0] (List.getElem?_eq_getElem (by omega))
    have hs : s = none := by
      cases s with
      | none => rfl
      | some y =>
        exfalso
        simp only [World.cell?, Addr.add] at hx0
        split at hx0
        · simp at hx0
        · cases hx0
    subst hs
    refine .inr ⟨b, o, rfl, ?_, fun i hi => ?_⟩
    · have := World.block_lt_of_cell? w _ hx0
      simpa [Addr.add] using this
    · have hi' : i < l.length := by rwa [strV_len] at hi
      have := hcell i l[i] (List.getElem?_eq_getElem hi')
      rw [show (⟨b, o, none⟩ : Addr).add i = ⟨b, o + i, none⟩ by unfold Addr.add; split <;> simp_all] at this
      rw [this, strV_get l i hi']

end Go.Proofs.YtlohfcinffaagaaDoor
