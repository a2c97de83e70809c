/-
  No cell of these rows narrows 'for every input' (looked for: loops, veiled, ifaces, maps, wideKeys, modest, calm, conditions, laid).
  DERIVED. THE GIVEN ROWS OF THIS SEAT. 6 by the template 'for every input the law returns true; each argument reads behind the call as it read before'; 0 by the template 'total and deterministic' (their statements: YtafenndokmccoaaTotals.lean).
  GIVEN WITH THE SEED: the statements are not yours to turn. If you find one false, say at which input.
  Laid BY PROGRAM, IN A SANDBOX (cutbox-rows.mjs): the forced cells as the released guide's own fill.sh prints them over the translation dfc8bf73feee8239… (all of the seat's roots in one cut). By AI agents, Wed Nov 11 2026. No macro, syntax, notation, axiom, sorry.
-/
import Derived.Test.YtafenndokmccoaaChecked
import GoSem.Claim
import GoSem.ClaimJoined
import GoSem.ClaimMapViews
import Derived.JoinedTies
import Derived.KernelRfl
namespace Go.Proofs.Ytafenndokmccoaa
/- THE CELL 'sum', in the pinned program and in every row, IS THE sha256 OF THE DUMP (.gsa) THAT YtafenndokmccoaaProg.lean LOADS. Nothing in Lean hashes anything: it is a label: what it is worth is what the hold of that sum in a sandbox is worth. -/
noncomputable def Try.pinned : Pinned := { name := "ytafenndokmccoaa", sum := "dfc8bf73feee8239f882ac031747fb6409bddfda4798eae0d5c508ff03ee50ad", checked := Try.checked }
namespace Rows
def none {H : Type} : Left H := { results := [], args := [] }

/-- 'lapidarylaw27.ClearClaims': WHATEVER THE INPUT: true; the input reads as it did. -/
def clearClaimsSpec : ChangeSpec := { name := "clearClaims", fn := fun _ => fun
  | [d1, d2, d3] => { results := [.lit (.bool true)], args := [d1, d2, d3] }
  | _ => none }
def clearClaimsRow : OpenClaim := { program := "ytafenndokmccoaa", sum := "dfc8bf73feee8239f882ac031747fb6409bddfda4798eae0d5c508ff03ee50ad", func := "lapidary/lapidarylaw27.ClearClaims", spec := "clearClaims", unfollowed := true, recurses := true, apart := false }
def ClearClaimsSaid : Prop := clearClaimsRow.holds Try.pinned (OpenSpec.ofChange clearClaimsSpec)

/-- ITS FALSE NEIGHBOUR: 'it returns false'. Refute it at one input. -/
def clearClaimsWrong : ChangeSpec := { name := "clearClaims", fn := fun _ => fun
  | [d1, d2, d3] => { results := [.lit (.bool false)], args := [d1, d2, d3] }
  | _ => none }
def ClearClaimsWrongFalsely : Prop := clearClaimsRow.holds Try.pinned (OpenSpec.ofChange clearClaimsWrong)

/-- 'lapidarylaw27.ClearTold': WHATEVER THE INPUT: true; the input reads as it did. -/
def clearToldSpec : ChangeSpec := { name := "clearTold", fn := fun _ => fun
  | [d1, d2, d3, d4] => { results := [.lit (.bool true)], args := [d1, d2, d3, d4] }
  | _ => none }
def clearToldRow : OpenClaim := { program := "ytafenndokmccoaa", sum := "dfc8bf73feee8239f882ac031747fb6409bddfda4798eae0d5c508ff03ee50ad", func := "lapidary/lapidarylaw27.ClearTold", spec := "clearTold", unfollowed := true, recurses := true, apart := false }
def ClearToldSaid : Prop := clearToldRow.holds Try.pinned (OpenSpec.ofChange clearToldSpec)

/-- ITS FALSE NEIGHBOUR: 'it returns false'. Refute it at one input. -/
def clearToldWrong : ChangeSpec := { name := "clearTold", fn := fun _ => fun
  | [d1, d2, d3, d4] => { results := [.lit (.bool false)], args := [d1, d2, d3, d4] }
  | _ => none }
def ClearToldWrongFalsely : Prop := clearToldRow.holds Try.pinned (OpenSpec.ofChange clearToldWrong)

/-- 'lapidarylaw27.ClearNil': WHATEVER THE INPUT: true; the input reads as it did. -/
def clearNilSpec : ChangeSpec := { name := "clearNil", fn := fun _ => fun
  | [d] => { results := [.lit (.bool true)], args := [d] }
  | _ => none }
def clearNilRow : OpenClaim := { program := "ytafenndokmccoaa", sum := "dfc8bf73feee8239f882ac031747fb6409bddfda4798eae0d5c508ff03ee50ad", func := "lapidary/lapidarylaw27.ClearNil", spec := "clearNil", unfollowed := true, recurses := true, apart := false }
def ClearNilSaid : Prop := clearNilRow.holds Try.pinned (OpenSpec.ofChange clearNilSpec)

/-- ITS FALSE NEIGHBOUR: 'it returns false'. Refute it at one input. -/
def clearNilWrong : ChangeSpec := { name := "clearNil", fn := fun _ => fun
  | [d] => { results := [.lit (.bool false)], args := [d] }
  | _ => none }
def ClearNilWrongFalsely : Prop := clearNilRow.holds Try.pinned (OpenSpec.ofChange clearNilWrong)

/-- 'lapidarylaw27.ClearWhole': WHATEVER THE INPUT: true; the input reads as it did. -/
def clearWholeSpec : ChangeSpec := { name := "clearWhole", fn := fun _ => fun
  | [d1, d2] => { results := [.lit (.bool true)], args := [d1, d2] }
  | _ => none }
def clearWholeRow : OpenClaim := { program := "ytafenndokmccoaa", sum := "dfc8bf73feee8239f882ac031747fb6409bddfda4798eae0d5c508ff03ee50ad", func := "lapidary/lapidarylaw27.ClearWhole", spec := "clearWhole", unfollowed := true, recurses := true, apart := false }
def ClearWholeSaid : Prop := clearWholeRow.holds Try.pinned (OpenSpec.ofChange clearWholeSpec)

/-- ITS FALSE NEIGHBOUR: 'it returns false'. Refute it at one input. -/
def clearWholeWrong : ChangeSpec := { name := "clearWhole", fn := fun _ => fun
  | [d1, d2] => { results := [.lit (.bool false)], args := [d1, d2] }
  | _ => none }
def ClearWholeWrongFalsely : Prop := clearWholeRow.holds Try.pinned (OpenSpec.ofChange clearWholeWrong)

/-- 'lapidarylaw19.DoorSame': WHATEVER THE INPUT: true; the input reads as it did. -/
def doorSameSpec : ChangeSpec := { name := "doorSame", fn := fun _ => fun
  | [d1, d2, d3, d4, d5] => { results := [.lit (.bool true)], args := [d1, d2, d3, d4, d5] }
  | _ => none }
def doorSameRow : OpenClaim := { program := "ytafenndokmccoaa", sum := "dfc8bf73feee8239f882ac031747fb6409bddfda4798eae0d5c508ff03ee50ad", func := "lapidary/lapidarylaw19.DoorSame", spec := "doorSame", unfollowed := true, recurses := true, apart := false }
def DoorSameSaid : Prop := doorSameRow.holds Try.pinned (OpenSpec.ofChange doorSameSpec)

/-- ITS FALSE NEIGHBOUR: 'it returns false'. Refute it at one input. -/
def doorSameWrong : ChangeSpec := { name := "doorSame", fn := fun _ => fun
  | [d1, d2, d3, d4, d5] => { results := [.lit (.bool false)], args := [d1, d2, d3, d4, d5] }
  | _ => none }
def DoorSameWrongFalsely : Prop := doorSameRow.holds Try.pinned (OpenSpec.ofChange doorSameWrong)

/-- 'lapidarylaw19.DoorNil': WHATEVER THE INPUT: true; the input reads as it did. -/
def doorNilSpec : ChangeSpec := { name := "doorNil", fn := fun _ => fun
  | [d] => { results := [.lit (.bool true)], args := [d] }
  | _ => none }
def doorNilRow : OpenClaim := { program := "ytafenndokmccoaa", sum := "dfc8bf73feee8239f882ac031747fb6409bddfda4798eae0d5c508ff03ee50ad", func := "lapidary/lapidarylaw19.DoorNil", spec := "doorNil", unfollowed := true, recurses := true, apart := false }
def DoorNilSaid : Prop := doorNilRow.holds Try.pinned (OpenSpec.ofChange doorNilSpec)

/-- ITS FALSE NEIGHBOUR: 'it returns false'. Refute it at one input. -/
def doorNilWrong : ChangeSpec := { name := "doorNil", fn := fun _ => fun
  | [d] => { results := [.lit (.bool false)], args := [d] }
  | _ => none }
def DoorNilWrongFalsely : Prop := doorNilRow.holds Try.pinned (OpenSpec.ofChange doorNilWrong)

/- THE SECOND FORM. 'bulk': how many values and letters a reading holds, each counted each time it is reached (what is shared counts as often as it is met; a slice's spare places count too). A statement '..UptoSaid' is the law's where the arguments, and the package variables that the reading takes, are together of bulk at most 1048576: NARROWER than '..Said'. Prove '..Said' where nothing that the law and all that it calls make is longer than what came in: it says more and counts as full. Else prove '..UptoSaid'. A law counts once. -/
mutual
def uptoBulk {H : Type} : DataW H → Nat
  | .lit (.string bytes) => bytes.length + 1
  | .lit _ => 1
  | .nil => 1
  | .ptr d => uptoBulk d + 1
  | .slice elems spare => uptoBulkAll elems + uptoBulkAll spare + 1
  | .agg parts => uptoBulkAll parts + 1
  | .iface _ d => uptoBulk d + 1
  | .map entries => uptoBulkEntries entries + 1
  | .held _ => 1
def uptoBulkAll {H : Type} : List (DataW H) → Nat
  | [] => 0
  | d :: r => uptoBulk d + uptoBulkAll r
def uptoBulkEntries {H : Type} : List (Lit × DataW H) → Nat
  | [] => 0
  | x :: r => uptoBulkEntry x + uptoBulkEntries r
def uptoBulkEntry {H : Type} : Lit × DataW H → Nat
  | (.string bytes, d) => bytes.length + uptoBulk d + 1
  | (_, d) => uptoBulk d + 1
 end
def uptoSmall : (H : Type) → List (DataW H) → Bool := fun _ ds => decide (uptoBulkAll ds ≤ 1048576)
def OpenSpec.upto (s : _root_.Go.ChangeSpec) : _root_.Go.OpenSpec := { _root_.Go.OpenSpec.ofChange s with cond := some uptoSmall }

/-- 'lapidarylaw27.ClearClaims', WHERE WHAT IT READS IS OF BULK AT MOST 1048576: true; the input reads as it did. -/
def clearClaimsUptoRow : OpenClaim := { program := "ytafenndokmccoaa", sum := "dfc8bf73feee8239f882ac031747fb6409bddfda4798eae0d5c508ff03ee50ad", func := "lapidary/lapidarylaw27.ClearClaims", spec := "clearClaims", unfollowed := true, recurses := true, apart := false, narrowed := true }
def ClearClaimsUptoSaid : Prop := clearClaimsUptoRow.holds Try.pinned (OpenSpec.upto clearClaimsSpec)

/-- 'lapidarylaw27.ClearTold', WHERE WHAT IT READS IS OF BULK AT MOST 1048576: true; the input reads as it did. -/
def clearToldUptoRow : OpenClaim := { program := "ytafenndokmccoaa", sum := "dfc8bf73feee8239f882ac031747fb6409bddfda4798eae0d5c508ff03ee50ad", func := "lapidary/lapidarylaw27.ClearTold", spec := "clearTold", unfollowed := true, recurses := true, apart := false, narrowed := true }
def ClearToldUptoSaid : Prop := clearToldUptoRow.holds Try.pinned (OpenSpec.upto clearToldSpec)

/-- 'lapidarylaw27.ClearNil', WHERE WHAT IT READS IS OF BULK AT MOST 1048576: true; the input reads as it did. -/
def clearNilUptoRow : OpenClaim := { program := "ytafenndokmccoaa", sum := "dfc8bf73feee8239f882ac031747fb6409bddfda4798eae0d5c508ff03ee50ad", func := "lapidary/lapidarylaw27.ClearNil", spec := "clearNil", unfollowed := true, recurses := true, apart := false, narrowed := true }
def ClearNilUptoSaid : Prop := clearNilUptoRow.holds Try.pinned (OpenSpec.upto clearNilSpec)

/-- 'lapidarylaw27.ClearWhole', WHERE WHAT IT READS IS OF BULK AT MOST 1048576: true; the input reads as it did. -/
def clearWholeUptoRow : OpenClaim := { program := "ytafenndokmccoaa", sum := "dfc8bf73feee8239f882ac031747fb6409bddfda4798eae0d5c508ff03ee50ad", func := "lapidary/lapidarylaw27.ClearWhole", spec := "clearWhole", unfollowed := true, recurses := true, apart := false, narrowed := true }
def ClearWholeUptoSaid : Prop := clearWholeUptoRow.holds Try.pinned (OpenSpec.upto clearWholeSpec)

/-- 'lapidarylaw19.DoorSame', WHERE WHAT IT READS IS OF BULK AT MOST 1048576: true; the input reads as it did. -/
def doorSameUptoRow : OpenClaim := { program := "ytafenndokmccoaa", sum := "dfc8bf73feee8239f882ac031747fb6409bddfda4798eae0d5c508ff03ee50ad", func := "lapidary/lapidarylaw19.DoorSame", spec := "doorSame", unfollowed := true, recurses := true, apart := false, narrowed := true }
def DoorSameUptoSaid : Prop := doorSameUptoRow.holds Try.pinned (OpenSpec.upto doorSameSpec)

/-- 'lapidarylaw19.DoorNil', WHERE WHAT IT READS IS OF BULK AT MOST 1048576: true; the input reads as it did. -/
def doorNilUptoRow : OpenClaim := { program := "ytafenndokmccoaa", sum := "dfc8bf73feee8239f882ac031747fb6409bddfda4798eae0d5c508ff03ee50ad", func := "lapidary/lapidarylaw19.DoorNil", spec := "doorNil", unfollowed := true, recurses := true, apart := false, narrowed := true }
def DoorNilUptoSaid : Prop := doorNilUptoRow.holds Try.pinned (OpenSpec.upto doorNilSpec)

end Rows
end Go.Proofs.Ytafenndokmccoaa
