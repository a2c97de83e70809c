/- A struct's field out of its value, for the walks. -/
import Derived.Test.YtflomobdaagekaaDoorProg
import Derived.WalkKit
namespace Go.Proofs.YtflomobdaagekaaDoor
set_option linter.unusedVariables false
set_option linter.unusedSimpArgs false

theorem fldWord_0 (a b c : Value) (W : World) : (Instr.field 26 (.agg #[a, b, c]) 0).run Tryd.prog W = .ok a W := by kernel_rfl
theorem fldWord_1 (a b c : Value) (W : World) : (Instr.field 26 (.agg #[a, b, c]) 1).run Tryd.prog W = .ok b W := by kernel_rfl
theorem fldWord_2 (a b c : Value) (W : World) : (Instr.field 26 (.agg #[a, b, c]) 2).run Tryd.prog W = .ok c W := by kernel_rfl
theorem fldLook_0 (a b : Value) (W : World) : (Instr.field 54 (.agg #[a, b]) 0).run Tryd.prog W = .ok a W := by kernel_rfl
theorem fldLook_1 (a b : Value) (W : World) : (Instr.field 54 (.agg #[a, b]) 1).run Tryd.prog W = .ok b W := by kernel_rfl

end Go.Proofs.YtflomobdaagekaaDoor
