/- The reference of layer 'word': what a word is. -/
import Derived.Test.YtafenndokmccoaaKit
namespace Go.Proofs.Ytafenndokmccoaa
open Go.RowKit
set_option linter.unusedVariables false
set_option linter.unusedSimpArgs false

def wEven (x : Int) : Int := x - x % 2
def wdK (x : Int) : Int := if x = 2 then 4 else if wEven x = 0 then 1 else if wEven x % 8 = 0 ∧ wEven x / 8 ≤ 16777215 then 2 else if wEven x % 8 = 4 ∧ wEven x / 8 < 1152921504606846976 then 3 else 0
def wdS (x : Int) : Bool := decide (wdK x ≠ 0 ∧ wdK x ≠ 4 ∧ x % 2 = 1)
def wdV (x : Int) : Int := if wdK x = 2 then wEven x / 8 else if wdK x = 3 then wEven x / 8 - 576460752303423488 else 0

end Go.Proofs.Ytafenndokmccoaa
