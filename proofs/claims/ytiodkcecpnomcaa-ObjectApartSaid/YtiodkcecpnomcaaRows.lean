/-
  No cell of these rows narrows 'for every input' (looked for: loops, veiled, ifaces, maps, wideKeys, modest, calm, conditions, laid).
  DERIVED. THE GIVEN ROWS OF THIS SEAT. 6 by the template 'for every input the law returns true; each argument reads behind the call as it read before'; 0 by the template 'total and deterministic' (their statements: YtiodkcecpnomcaaTotals.lean).
  GIVEN WITH THE SEED: the statements are not yours to turn. If you find one false, say at which input.
  Laid BY PROGRAM, IN A SANDBOX (cutbox-rows.mjs): the forced cells as the released guide's own fill.sh prints them over the translation 066738984dd9e9a3… (all of the seat's roots in one cut). By AI agents, Wed Nov 11 2026. No macro, syntax, notation, axiom, sorry.
-/
import Derived.Test.YtiodkcecpnomcaaChecked
import GoSem.Claim
import GoSem.ClaimJoined
import GoSem.ClaimMapViews
import Derived.JoinedTies
import Derived.KernelRfl
namespace Go.Proofs.Ytiodkcecpnomcaa
/- THE CELL 'sum', in the pinned program and in every row, IS THE sha256 OF THE DUMP (.gsa) THAT YtiodkcecpnomcaaProg.lean LOADS. Nothing in Lean hashes anything: it is a label: what it is worth is what the hold of that sum in a sandbox is worth. -/
noncomputable def Try.pinned : Pinned := { name := "ytiodkcecpnomcaa", sum := "066738984dd9e9a374678c79474aaa6aa98d511a222f495091ca8f6f61fc3f8e", checked := Try.checked }
namespace Rows
def none {H : Type} : Left H := { results := [], args := [] }

/-- 'lapidarylaw07.ObjectPlace': WHATEVER THE INPUT: true; the input reads as it did. -/
def objectPlaceSpec : ChangeSpec := { name := "objectPlace", fn := fun _ => fun
  | [d1, d2, d3] => { results := [.lit (.bool true)], args := [d1, d2, d3] }
  | _ => none }
def objectPlaceRow : OpenClaim := { program := "ytiodkcecpnomcaa", sum := "066738984dd9e9a374678c79474aaa6aa98d511a222f495091ca8f6f61fc3f8e", func := "lapidary/lapidarylaw07.ObjectPlace", spec := "objectPlace", unfollowed := true, recurses := true, apart := false }
def ObjectPlaceSaid : Prop := objectPlaceRow.holds Try.pinned (OpenSpec.ofChange objectPlaceSpec)

/-- ITS FALSE NEIGHBOUR: 'it returns false'. Refute it at one input. -/
def objectPlaceWrong : ChangeSpec := { name := "objectPlace", fn := fun _ => fun
  | [d1, d2, d3] => { results := [.lit (.bool false)], args := [d1, d2, d3] }
  | _ => none }
def ObjectPlaceWrongFalsely : Prop := objectPlaceRow.holds Try.pinned (OpenSpec.ofChange objectPlaceWrong)

/-- 'lapidarylaw07.ObjectWalk': WHATEVER THE INPUT: true; the input reads as it did. -/
def objectWalkSpec : ChangeSpec := { name := "objectWalk", fn := fun _ => fun
  | [d1, d2, d3, d4] => { results := [.lit (.bool true)], args := [d1, d2, d3, d4] }
  | _ => none }
def objectWalkRow : OpenClaim := { program := "ytiodkcecpnomcaa", sum := "066738984dd9e9a374678c79474aaa6aa98d511a222f495091ca8f6f61fc3f8e", func := "lapidary/lapidarylaw07.ObjectWalk", spec := "objectWalk", unfollowed := true, recurses := true, apart := false }
def ObjectWalkSaid : Prop := objectWalkRow.holds Try.pinned (OpenSpec.ofChange objectWalkSpec)

/-- ITS FALSE NEIGHBOUR: 'it returns false'. Refute it at one input. -/
def objectWalkWrong : ChangeSpec := { name := "objectWalk", fn := fun _ => fun
  | [d1, d2, d3, d4] => { results := [.lit (.bool false)], args := [d1, d2, d3, d4] }
  | _ => none }
def ObjectWalkWrongFalsely : Prop := objectWalkRow.holds Try.pinned (OpenSpec.ofChange objectWalkWrong)

/-- 'lapidarylaw07.ObjectApart': WHATEVER THE INPUT: true; the input reads as it did. -/
def objectApartSpec : ChangeSpec := { name := "objectApart", fn := fun _ => fun
  | [d1, d2, d3] => { results := [.lit (.bool true)], args := [d1, d2, d3] }
  | _ => none }
def objectApartRow : OpenClaim := { program := "ytiodkcecpnomcaa", sum := "066738984dd9e9a374678c79474aaa6aa98d511a222f495091ca8f6f61fc3f8e", func := "lapidary/lapidarylaw07.ObjectApart", spec := "objectApart", unfollowed := true, recurses := true, apart := false }
def ObjectApartSaid : Prop := objectApartRow.holds Try.pinned (OpenSpec.ofChange objectApartSpec)

/-- ITS FALSE NEIGHBOUR: 'it returns false'. Refute it at one input. -/
def objectApartWrong : ChangeSpec := { name := "objectApart", fn := fun _ => fun
  | [d1, d2, d3] => { results := [.lit (.bool false)], args := [d1, d2, d3] }
  | _ => none }
def ObjectApartWrongFalsely : Prop := objectApartRow.holds Try.pinned (OpenSpec.ofChange objectApartWrong)

/-- 'lapidarylaw07.ObjectNil': WHATEVER THE INPUT: true; the input reads as it did. -/
def objectNilSpec : ChangeSpec := { name := "objectNil", fn := fun _ => fun
  | [d1, d2] => { results := [.lit (.bool true)], args := [d1, d2] }
  | _ => none }
def objectNilRow : OpenClaim := { program := "ytiodkcecpnomcaa", sum := "066738984dd9e9a374678c79474aaa6aa98d511a222f495091ca8f6f61fc3f8e", func := "lapidary/lapidarylaw07.ObjectNil", spec := "objectNil", unfollowed := true, recurses := true, apart := false }
def ObjectNilSaid : Prop := objectNilRow.holds Try.pinned (OpenSpec.ofChange objectNilSpec)

/-- ITS FALSE NEIGHBOUR: 'it returns false'. Refute it at one input. -/
def objectNilWrong : ChangeSpec := { name := "objectNil", fn := fun _ => fun
  | [d1, d2] => { results := [.lit (.bool false)], args := [d1, d2] }
  | _ => none }
def ObjectNilWrongFalsely : Prop := objectNilRow.holds Try.pinned (OpenSpec.ofChange objectNilWrong)

/-- 'lapidarylaw07.ObjectPut': WHATEVER THE INPUT: true; the input reads as it did. -/
def objectPutSpec : ChangeSpec := { name := "objectPut", fn := fun _ => fun
  | [d1, d2] => { results := [.lit (.bool true)], args := [d1, d2] }
  | _ => none }
def objectPutRow : OpenClaim := { program := "ytiodkcecpnomcaa", sum := "066738984dd9e9a374678c79474aaa6aa98d511a222f495091ca8f6f61fc3f8e", func := "lapidary/lapidarylaw07.ObjectPut", spec := "objectPut", unfollowed := true, recurses := true, apart := false }
def ObjectPutSaid : Prop := objectPutRow.holds Try.pinned (OpenSpec.ofChange objectPutSpec)

/-- ITS FALSE NEIGHBOUR: 'it returns false'. Refute it at one input. -/
def objectPutWrong : ChangeSpec := { name := "objectPut", fn := fun _ => fun
  | [d1, d2] => { results := [.lit (.bool false)], args := [d1, d2] }
  | _ => none }
def ObjectPutWrongFalsely : Prop := objectPutRow.holds Try.pinned (OpenSpec.ofChange objectPutWrong)

/-- 'lapidarylaw07.ObjectRead': WHATEVER THE INPUT: true; the input reads as it did. -/
def objectReadSpec : ChangeSpec := { name := "objectRead", fn := fun _ => fun
  | [d1, d2] => { results := [.lit (.bool true)], args := [d1, d2] }
  | _ => none }
def objectReadRow : OpenClaim := { program := "ytiodkcecpnomcaa", sum := "066738984dd9e9a374678c79474aaa6aa98d511a222f495091ca8f6f61fc3f8e", func := "lapidary/lapidarylaw07.ObjectRead", spec := "objectRead", unfollowed := true, recurses := true, apart := false }
def ObjectReadSaid : Prop := objectReadRow.holds Try.pinned (OpenSpec.ofChange objectReadSpec)

/-- ITS FALSE NEIGHBOUR: 'it returns false'. Refute it at one input. -/
def objectReadWrong : ChangeSpec := { name := "objectRead", fn := fun _ => fun
  | [d1, d2] => { results := [.lit (.bool false)], args := [d1, d2] }
  | _ => none }
def ObjectReadWrongFalsely : Prop := objectReadRow.holds Try.pinned (OpenSpec.ofChange objectReadWrong)

/- THE SECOND FORM. 'bulk': how many values and letters a reading holds, each counted each time it is reached (what is shared counts as often as it is met; a slice's spare places count too). A statement '..UptoSaid' is the law's where the arguments, and the package variables that the reading takes, are together of bulk at most 1048576: NARROWER than '..Said'. Prove '..Said' where nothing that the law and all that it calls make is longer than what came in: it says more and counts as full. Else prove '..UptoSaid'. A law counts once. -/
mutual
def uptoBulk {H : Type} : DataW H → Nat
  | .lit (.string bytes) => bytes.length + 1
  | .lit _ => 1
  | .nil => 1
  | .ptr d => uptoBulk d + 1
  | .slice elems spare => uptoBulkAll elems + uptoBulkAll spare + 1
  | .agg parts => uptoBulkAll parts + 1
  | .iface _ d => uptoBulk d + 1
  | .map entries => uptoBulkEntries entries + 1
  | .held _ => 1
def uptoBulkAll {H : Type} : List (DataW H) → Nat
  | [] => 0
  | d :: r => uptoBulk d + uptoBulkAll r
def uptoBulkEntries {H : Type} : List (Lit × DataW H) → Nat
  | [] => 0
  | x :: r => uptoBulkEntry x + uptoBulkEntries r
def uptoBulkEntry {H : Type} : Lit × DataW H → Nat
  | (.string bytes, d) => bytes.length + uptoBulk d + 1
  | (_, d) => uptoBulk d + 1
 end
def uptoSmall : (H : Type) → List (DataW H) → Bool := fun _ ds => decide (uptoBulkAll ds ≤ 1048576)
def OpenSpec.upto (s : _root_.Go.ChangeSpec) : _root_.Go.OpenSpec := { _root_.Go.OpenSpec.ofChange s with cond := some uptoSmall }

/-- 'lapidarylaw07.ObjectPlace', WHERE WHAT IT READS IS OF BULK AT MOST 1048576: true; the input reads as it did. -/
def objectPlaceUptoRow : OpenClaim := { program := "ytiodkcecpnomcaa", sum := "066738984dd9e9a374678c79474aaa6aa98d511a222f495091ca8f6f61fc3f8e", func := "lapidary/lapidarylaw07.ObjectPlace", spec := "objectPlace", unfollowed := true, recurses := true, apart := false, narrowed := true }
def ObjectPlaceUptoSaid : Prop := objectPlaceUptoRow.holds Try.pinned (OpenSpec.upto objectPlaceSpec)

/-- 'lapidarylaw07.ObjectWalk', WHERE WHAT IT READS IS OF BULK AT MOST 1048576: true; the input reads as it did. -/
def objectWalkUptoRow : OpenClaim := { program := "ytiodkcecpnomcaa", sum := "066738984dd9e9a374678c79474aaa6aa98d511a222f495091ca8f6f61fc3f8e", func := "lapidary/lapidarylaw07.ObjectWalk", spec := "objectWalk", unfollowed := true, recurses := true, apart := false, narrowed := true }
def ObjectWalkUptoSaid : Prop := objectWalkUptoRow.holds Try.pinned (OpenSpec.upto objectWalkSpec)

/-- 'lapidarylaw07.ObjectApart', WHERE WHAT IT READS IS OF BULK AT MOST 1048576: true; the input reads as it did. -/
def objectApartUptoRow : OpenClaim := { program := "ytiodkcecpnomcaa", sum := "066738984dd9e9a374678c79474aaa6aa98d511a222f495091ca8f6f61fc3f8e", func := "lapidary/lapidarylaw07.ObjectApart", spec := "objectApart", unfollowed := true, recurses := true, apart := false, narrowed := true }
def ObjectApartUptoSaid : Prop := objectApartUptoRow.holds Try.pinned (OpenSpec.upto objectApartSpec)

/-- 'lapidarylaw07.ObjectNil', WHERE WHAT IT READS IS OF BULK AT MOST 1048576: true; the input reads as it did. -/
def objectNilUptoRow : OpenClaim := { program := "ytiodkcecpnomcaa", sum := "066738984dd9e9a374678c79474aaa6aa98d511a222f495091ca8f6f61fc3f8e", func := "lapidary/lapidarylaw07.ObjectNil", spec := "objectNil", unfollowed := true, recurses := true, apart := false, narrowed := true }
def ObjectNilUptoSaid : Prop := objectNilUptoRow.holds Try.pinned (OpenSpec.upto objectNilSpec)

/-- 'lapidarylaw07.ObjectPut', WHERE WHAT IT READS IS OF BULK AT MOST 1048576: true; the input reads as it did. -/
def objectPutUptoRow : OpenClaim := { program := "ytiodkcecpnomcaa", sum := "066738984dd9e9a374678c79474aaa6aa98d511a222f495091ca8f6f61fc3f8e", func := "lapidary/lapidarylaw07.ObjectPut", spec := "objectPut", unfollowed := true, recurses := true, apart := false, narrowed := true }
def ObjectPutUptoSaid : Prop := objectPutUptoRow.holds Try.pinned (OpenSpec.upto objectPutSpec)

/-- 'lapidarylaw07.ObjectRead', WHERE WHAT IT READS IS OF BULK AT MOST 1048576: true; the input reads as it did. -/
def objectReadUptoRow : OpenClaim := { program := "ytiodkcecpnomcaa", sum := "066738984dd9e9a374678c79474aaa6aa98d511a222f495091ca8f6f61fc3f8e", func := "lapidary/lapidarylaw07.ObjectRead", spec := "objectRead", unfollowed := true, recurses := true, apart := false, narrowed := true }
def ObjectReadUptoSaid : Prop := objectReadUptoRow.holds Try.pinned (OpenSpec.upto objectReadSpec)

end Rows
end Go.Proofs.Ytiodkcecpnomcaa
