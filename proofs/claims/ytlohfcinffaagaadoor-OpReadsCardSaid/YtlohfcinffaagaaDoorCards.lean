/-
  DERIVED. GIVEN WITH THE SEED: THE CARDS: each row of YtlohfcinffaagaaDoorRows.lean that lists a variable, with what it lists TIED to the program's text (the seventh form; the later family's looks); each row that meets fmt, with fmt's text TOLD by the authors' own Lean function (tested against real Go, not proved from fmt's source: count such statements apart). THE CARD IS WHAT COUNTS. Prove the row's statement (the work); the ties are given (YtlohfcinffaagaaDoorTie.lean); close each card by the builder's one call (the guide's Derived/Test/ToyasCard.lean, 'card_holds'). Laid BY PROGRAM, IN A SANDBOX (cutbox-door.mjs). By AI agents, Wed Nov 11 2026. No macro, syntax, notation, axiom, sorry.
-/
import Derived.Test.YtlohfcinffaagaaDoorRows
import GoSem.ClaimSeven
namespace Go.Proofs.YtlohfcinffaagaaDoor
namespace Rows

/-- THE TIED CARD OF 'lapidarylaw08.OpNames'. -/
def opNamesCard : Claim7 := { stood := { row := opNamesRow, standIns := [], harness := (true, "5a7498b17f4f7dd9d06e3fc0686385320ff2ccf70e8357f9de4b271d429d966f"), looks := true }, kinds := [], alts := [], laidByText := true, laidKinds := [.data, .data, .data, .data, .sentinel, .sentinel, .pinned], laidTests := true, laidLooks := .later }
def OpNamesCardSaid : Prop := Claim7.holds Tryd.pinned (.plain (OpenSpec.ofChange opNamesSpec)) opNamesCard

/-- THE TIED CARD OF 'lapidarylaw08.OpChecks'. -/
def opChecksCard : Claim7 := { stood := { row := opChecksRow, standIns := [], harness := (true, "5a7498b17f4f7dd9d06e3fc0686385320ff2ccf70e8357f9de4b271d429d966f"), looks := true }, kinds := [], alts := [], laidByText := true, laidKinds := [.data, .data, .data, .data, .sentinel, .sentinel, .pinned], laidTests := true, laidLooks := .later }
def OpChecksCardSaid : Prop := Claim7.holds Tryd.pinned (.plain (OpenSpec.ofChange opChecksSpec)) opChecksCard

/-- THE TIED CARD OF 'lapidarylaw08.OpTold'. -/
def opToldCard : Claim7 := { stood := { row := opToldRow, standIns := [], harness := (true, "5a7498b17f4f7dd9d06e3fc0686385320ff2ccf70e8357f9de4b271d429d966f"), looks := true }, kinds := [], alts := [], laidByText := true, laidKinds := [.data, .data, .data, .data, .sentinel, .sentinel, .pinned], laidTests := true, laidLooks := .later }
def OpToldCardSaid : Prop := Claim7.holds Tryd.pinned (.plain (OpenSpec.ofChange opToldSpec)) opToldCard

/-- THE TIED CARD OF 'lapidarylaw08.OpTexts'. -/
def opTextsCard : Claim7 := { stood := { row := opTextsRow, standIns := [], harness := (true, "5a7498b17f4f7dd9d06e3fc0686385320ff2ccf70e8357f9de4b271d429d966f"), looks := true }, kinds := [], alts := [], laidByText := true, laidKinds := [.data, .data, .data, .data, .sentinel, .sentinel, .pinned], laidTests := true, laidLooks := .later }
def OpTextsCardSaid : Prop := Claim7.holds Tryd.pinned (.plain (OpenSpec.ofChange opTextsSpec)) opTextsCard

/-- THE TIED CARD OF 'lapidarylaw08.OpReads'. -/
def opReadsCard : Claim7 := { stood := { row := opReadsRow, standIns := [], harness := (true, "5a7498b17f4f7dd9d06e3fc0686385320ff2ccf70e8357f9de4b271d429d966f"), looks := true }, kinds := [], alts := [], laidByText := true, laidKinds := [.data, .data, .data, .data, .sentinel, .sentinel, .pinned], laidTests := true, laidLooks := .later }
def OpReadsCardSaid : Prop := Claim7.holds Tryd.pinned (.plain (OpenSpec.ofChange opReadsSpec)) opReadsCard

/-- THE TIED CARD OF 'lapidarylaw08.OpUnlike'. -/
def opUnlikeCard : Claim7 := { stood := { row := opUnlikeRow, standIns := [], harness := (true, "5a7498b17f4f7dd9d06e3fc0686385320ff2ccf70e8357f9de4b271d429d966f"), looks := true }, kinds := [], alts := [], laidByText := true, laidKinds := [.data, .data, .data, .data, .sentinel, .sentinel, .pinned], laidTests := true, laidLooks := .later }
def OpUnlikeCardSaid : Prop := Claim7.holds Tryd.pinned (.plain (OpenSpec.ofChange opUnlikeSpec)) opUnlikeCard

/-- THE SECOND FORM's CARD OF 'lapidarylaw08.OpNames'. -/
def opNamesUptoCard : Claim7 := { stood := { row := opNamesUptoRow, standIns := [], harness := (true, "5a7498b17f4f7dd9d06e3fc0686385320ff2ccf70e8357f9de4b271d429d966f"), looks := true }, kinds := [], alts := [], laidByText := true, laidKinds := [.data, .data, .data, .data, .sentinel, .sentinel, .pinned], laidTests := true, laidLooks := .later }
def OpNamesUptoCardSaid : Prop := Claim7.holds Tryd.pinned (.plain (OpenSpec.upto opNamesSpec)) opNamesUptoCard

/-- THE SECOND FORM's CARD OF 'lapidarylaw08.OpChecks'. -/
def opChecksUptoCard : Claim7 := { stood := { row := opChecksUptoRow, standIns := [], harness := (true, "5a7498b17f4f7dd9d06e3fc0686385320ff2ccf70e8357f9de4b271d429d966f"), looks := true }, kinds := [], alts := [], laidByText := true, laidKinds := [.data, .data, .data, .data, .sentinel, .sentinel, .pinned], laidTests := true, laidLooks := .later }
def OpChecksUptoCardSaid : Prop := Claim7.holds Tryd.pinned (.plain (OpenSpec.upto opChecksSpec)) opChecksUptoCard

/-- THE SECOND FORM's CARD OF 'lapidarylaw08.OpTold'. -/
def opToldUptoCard : Claim7 := { stood := { row := opToldUptoRow, standIns := [], harness := (true, "5a7498b17f4f7dd9d06e3fc0686385320ff2ccf70e8357f9de4b271d429d966f"), looks := true }, kinds := [], alts := [], laidByText := true, laidKinds := [.data, .data, .data, .data, .sentinel, .sentinel, .pinned], laidTests := true, laidLooks := .later }
def OpToldUptoCardSaid : Prop := Claim7.holds Tryd.pinned (.plain (OpenSpec.upto opToldSpec)) opToldUptoCard

/-- THE SECOND FORM's CARD OF 'lapidarylaw08.OpTexts'. -/
def opTextsUptoCard : Claim7 := { stood := { row := opTextsUptoRow, standIns := [], harness := (true, "5a7498b17f4f7dd9d06e3fc0686385320ff2ccf70e8357f9de4b271d429d966f"), looks := true }, kinds := [], alts := [], laidByText := true, laidKinds := [.data, .data, .data, .data, .sentinel, .sentinel, .pinned], laidTests := true, laidLooks := .later }
def OpTextsUptoCardSaid : Prop := Claim7.holds Tryd.pinned (.plain (OpenSpec.upto opTextsSpec)) opTextsUptoCard

/-- THE SECOND FORM's CARD OF 'lapidarylaw08.OpReads'. -/
def opReadsUptoCard : Claim7 := { stood := { row := opReadsUptoRow, standIns := [], harness := (true, "5a7498b17f4f7dd9d06e3fc0686385320ff2ccf70e8357f9de4b271d429d966f"), looks := true }, kinds := [], alts := [], laidByText := true, laidKinds := [.data, .data, .data, .data, .sentinel, .sentinel, .pinned], laidTests := true, laidLooks := .later }
def OpReadsUptoCardSaid : Prop := Claim7.holds Tryd.pinned (.plain (OpenSpec.upto opReadsSpec)) opReadsUptoCard

/-- THE SECOND FORM's CARD OF 'lapidarylaw08.OpUnlike'. -/
def opUnlikeUptoCard : Claim7 := { stood := { row := opUnlikeUptoRow, standIns := [], harness := (true, "5a7498b17f4f7dd9d06e3fc0686385320ff2ccf70e8357f9de4b271d429d966f"), looks := true }, kinds := [], alts := [], laidByText := true, laidKinds := [.data, .data, .data, .data, .sentinel, .sentinel, .pinned], laidTests := true, laidLooks := .later }
def OpUnlikeUptoCardSaid : Prop := Claim7.holds Tryd.pinned (.plain (OpenSpec.upto opUnlikeSpec)) opUnlikeUptoCard
end Rows
end Go.Proofs.YtlohfcinffaagaaDoor
