/- Small facts for the laws of layer 08. -/
import Derived.Test.YtlohfcinffaagaaDoorOpLa
import Derived.Test.YtlohfcinffaagaaDoorOpLo
namespace Go.Proofs.YtlohfcinffaagaaDoor
open Go.RowKit Go.Proofs.YtlohfcinffaagaaDoorW.PrintWords Go.Proofs.YtlohfcinffaagaaDoorQ.Op
set_option linter.unusedVariables false
set_option linter.unusedSimpArgs false

theorem wr1 {n : Nat} {m : Nat} (h : n < m) (hm : m ≤ 9223372036854775807) : wrap64 ((n : Int) + 1) = ((n + 1 : Nat) : Int) := by unfold wrap64; omega
theorem number_f {x : Int} (h : i64B x = true) : lapidaryref01_Number.f x = some (numS x) := by
  obtain ⟨h1, h2⟩ := i64_of h
  unfold lapidaryref01_Number.f
  rw [if_pos h1, if_pos h2]
theorem bare_f (o : OpN) : lapidaryref08_Bare.f o.k o.a o.b o.c o.f o.s o.x o.y = some (bareB o) := rfl
theorem rd35 (xs : List S35) (j : Nat) (h : j < xs.length) : rd_T35 xs (j : Int) = xs[j] := by
  unfold rd_T35
  rw [Int.toNat_natCast, List.getD_eq_getElem?_getD, List.getElem?_eq_getElem h]
  rfl
theorem text_f (k a b c f s x y : Int) (h : fitB ⟨k, a, b, c, f, s, x, y⟩ = true) : op_Text.f k a b c f s x y = some (textS ⟨k, a, b, c, f, s, x, y⟩, toldE ⟨k, a, b, c, f, s, x, y⟩) := by
  unfold op_Text.f
  rw [if_pos h]

end Go.Proofs.YtlohfcinffaagaaDoor
