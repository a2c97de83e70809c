/- The layer 'word': what a word is looked at as. -/
import Derived.Test.YtiodkcecpnomcaaDoorWord
import Derived.LoopN
import Derived.Laws.EntriesVeiled
namespace Go.Proofs.YtiodkcecpnomcaaDoor
open Go.RowKit
set_option linter.unusedVariables false
set_option linter.unusedSimpArgs false

def lookB (x : Int) : Int := if wdK x = 0 then 0 else x
theorem i0_ (W : World) : (Instr.index 130 (.agg rowsV) (.int .i64 0)).run Tryd.prog W = .ok (.agg #[.string ⟨#[98, 97, 100]⟩, .func (.func 83) #[] #[], .int .i64 0, .int .i64 0, .nilFunc]) W := index_row0 W
theorem i1_ (W : World) : (Instr.index 130 (.agg rowsV) (.int .i64 1)).run Tryd.prog W = .ok (.agg #[.string ⟨#[110, 117, 108, 108]⟩, .func (.func 84) #[] #[], .int .i64 0, .int .i64 0, .func (.func 86) #[] #[]]) W := index_row1 W
theorem i2_ (W : World) : (Instr.index 130 (.agg rowsV) (.int .i64 2)).run Tryd.prog W = .ok (.agg #[.string ⟨#[]⟩, .func (.func 87) #[] #[], .int .i64 1, .int .i64 16777215, .func (.func 89) #[] #[]]) W := index_row2 W
theorem i3_ (W : World) : (Instr.index 130 (.agg rowsV) (.int .i64 3)).run Tryd.prog W = .ok (.agg #[.string ⟨#[]⟩, .func (.func 90) #[] #[], .int .i64 (-576460752303423488), .int .i64 576460752303423487, .func (.func 91) #[] #[]]) W := index_row3 W
theorem i4_ (W : World) : (Instr.index 130 (.agg rowsV) (.int .i64 4)).run Tryd.prog W = .ok (.agg #[.string ⟨#[101, 109, 112, 116, 121]⟩, .func (.func 92) #[] #[], .int .i64 0, .int .i64 0, .func (.func 93) #[] #[]]) W := index_row4 W

end Go.Proofs.YtiodkcecpnomcaaDoor
