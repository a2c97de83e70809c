/-
  DERIVED. GIVEN WITH THE SEED: THE CARDS: each row of YtflomobdaagekaaDoorRows.lean that lists a variable, with what it lists TIED to the program's text (the seventh form; the later family's looks); each row that meets fmt, with fmt's text TOLD by the authors' own Lean function (tested against real Go, not proved from fmt's source: count such statements apart). THE CARD IS WHAT COUNTS. Prove the row's statement (the work); the ties are given (YtflomobdaagekaaDoorTie.lean); close each card by the builder's one call (the guide's Derived/Test/ToyasCard.lean, 'card_holds'). Laid BY PROGRAM, IN A SANDBOX (cutbox-door.mjs). By AI agents, Wed Nov 11 2026. No macro, syntax, notation, axiom, sorry.
-/
import Derived.Test.YtflomobdaagekaaDoorRows
import GoSem.ClaimSeven
namespace Go.Proofs.YtflomobdaagekaaDoor
namespace Rows

/-- THE TIED CARD OF 'lapidarylaw01.WordOf'. -/
def wordOfCard : Claim7 := { stood := { row := wordOfRow, standIns := [], harness := (true, "d892a91c68e7df7c479299afd2b9464e83b301b00f34ff53b64e8c206e19d93e"), looks := true }, kinds := [], alts := [], laidByText := true, laidKinds := [.data, .data, .data, .sentinel, .sentinel], laidTests := true, laidLooks := .later }
def WordOfCardSaid : Prop := Claim7.holds Tryd.pinned (.plain (OpenSpec.ofChange wordOfSpec)) wordOfCard

/-- THE TIED CARD OF 'lapidarylaw01.WordMake'. -/
def wordMakeCard : Claim7 := { stood := { row := wordMakeRow, standIns := [], harness := (true, "d892a91c68e7df7c479299afd2b9464e83b301b00f34ff53b64e8c206e19d93e"), looks := true }, kinds := [], alts := [], laidByText := true, laidKinds := [.data, .data, .data, .sentinel, .sentinel], laidTests := true, laidLooks := .later }
def WordMakeCardSaid : Prop := Claim7.holds Tryd.pinned (.plain (OpenSpec.ofChange wordMakeSpec)) wordMakeCard

/-- THE TIED CARD OF 'lapidarylaw01.WordNumbers'. -/
def wordNumbersCard : Claim7 := { stood := { row := wordNumbersRow, standIns := [], harness := (true, "d892a91c68e7df7c479299afd2b9464e83b301b00f34ff53b64e8c206e19d93e"), looks := true }, kinds := [], alts := [], laidByText := true, laidKinds := [.data, .data, .data, .sentinel, .sentinel], laidTests := true, laidLooks := .later }
def WordNumbersCardSaid : Prop := Claim7.holds Tryd.pinned (.plain (OpenSpec.ofChange wordNumbersSpec)) wordNumbersCard

/-- THE TIED CARD OF 'lapidarylaw01.WordTexts'. -/
def wordTextsCard : Claim7 := { stood := { row := wordTextsRow, standIns := [], harness := (true, "d892a91c68e7df7c479299afd2b9464e83b301b00f34ff53b64e8c206e19d93e"), looks := true }, kinds := [], alts := [], laidByText := true, laidKinds := [.data, .data, .data, .sentinel, .sentinel], laidTests := true, laidLooks := .later }
def WordTextsCardSaid : Prop := Claim7.holds Tryd.pinned (.plain (OpenSpec.ofChange wordTextsSpec)) wordTextsCard

/-- THE TIED CARD OF 'lapidarylaw01.WordReads'. -/
def wordReadsCard : Claim7 := { stood := { row := wordReadsRow, standIns := [], harness := (true, "d892a91c68e7df7c479299afd2b9464e83b301b00f34ff53b64e8c206e19d93e"), looks := true }, kinds := [], alts := [], laidByText := true, laidKinds := [.data, .data, .data, .sentinel, .sentinel], laidTests := true, laidLooks := .later }
def WordReadsCardSaid : Prop := Claim7.holds Tryd.pinned (.plain (OpenSpec.ofChange wordReadsSpec)) wordReadsCard

/-- THE TIED CARD OF 'lapidarylaw01.WordUnlike'. -/
def wordUnlikeCard : Claim7 := { stood := { row := wordUnlikeRow, standIns := [], harness := (true, "d892a91c68e7df7c479299afd2b9464e83b301b00f34ff53b64e8c206e19d93e"), looks := true }, kinds := [], alts := [], laidByText := true, laidKinds := [.data, .data, .data, .sentinel, .sentinel], laidTests := true, laidLooks := .later }
def WordUnlikeCardSaid : Prop := Claim7.holds Tryd.pinned (.plain (OpenSpec.ofChange wordUnlikeSpec)) wordUnlikeCard

/-- THE TIED CARD OF 'lapidarylaw01.WordSeals'. -/
def wordSealsCard : Claim7 := { stood := { row := wordSealsRow, standIns := [], harness := (true, "d892a91c68e7df7c479299afd2b9464e83b301b00f34ff53b64e8c206e19d93e"), looks := true }, kinds := [], alts := [], laidByText := true, laidKinds := [.data, .data, .data, .sentinel, .sentinel], laidTests := true, laidLooks := .later }
def WordSealsCardSaid : Prop := Claim7.holds Tryd.pinned (.plain (OpenSpec.ofChange wordSealsSpec)) wordSealsCard

/-- THE SECOND FORM's CARD OF 'lapidarylaw01.WordOf'. -/
def wordOfUptoCard : Claim7 := { stood := { row := wordOfUptoRow, standIns := [], harness := (true, "d892a91c68e7df7c479299afd2b9464e83b301b00f34ff53b64e8c206e19d93e"), looks := true }, kinds := [], alts := [], laidByText := true, laidKinds := [.data, .data, .data, .sentinel, .sentinel], laidTests := true, laidLooks := .later }
def WordOfUptoCardSaid : Prop := Claim7.holds Tryd.pinned (.plain (OpenSpec.upto wordOfSpec)) wordOfUptoCard

/-- THE SECOND FORM's CARD OF 'lapidarylaw01.WordMake'. -/
def wordMakeUptoCard : Claim7 := { stood := { row := wordMakeUptoRow, standIns := [], harness := (true, "d892a91c68e7df7c479299afd2b9464e83b301b00f34ff53b64e8c206e19d93e"), looks := true }, kinds := [], alts := [], laidByText := true, laidKinds := [.data, .data, .data, .sentinel, .sentinel], laidTests := true, laidLooks := .later }
def WordMakeUptoCardSaid : Prop := Claim7.holds Tryd.pinned (.plain (OpenSpec.upto wordMakeSpec)) wordMakeUptoCard

/-- THE SECOND FORM's CARD OF 'lapidarylaw01.WordNumbers'. -/
def wordNumbersUptoCard : Claim7 := { stood := { row := wordNumbersUptoRow, standIns := [], harness := (true, "d892a91c68e7df7c479299afd2b9464e83b301b00f34ff53b64e8c206e19d93e"), looks := true }, kinds := [], alts := [], laidByText := true, laidKinds := [.data, .data, .data, .sentinel, .sentinel], laidTests := true, laidLooks := .later }
def WordNumbersUptoCardSaid : Prop := Claim7.holds Tryd.pinned (.plain (OpenSpec.upto wordNumbersSpec)) wordNumbersUptoCard

/-- THE SECOND FORM's CARD OF 'lapidarylaw01.WordTexts'. -/
def wordTextsUptoCard : Claim7 := { stood := { row := wordTextsUptoRow, standIns := [], harness := (true, "d892a91c68e7df7c479299afd2b9464e83b301b00f34ff53b64e8c206e19d93e"), looks := true }, kinds := [], alts := [], laidByText := true, laidKinds := [.data, .data, .data, .sentinel, .sentinel], laidTests := true, laidLooks := .later }
def WordTextsUptoCardSaid : Prop := Claim7.holds Tryd.pinned (.plain (OpenSpec.upto wordTextsSpec)) wordTextsUptoCard

/-- THE SECOND FORM's CARD OF 'lapidarylaw01.WordReads'. -/
def wordReadsUptoCard : Claim7 := { stood := { row := wordReadsUptoRow, standIns := [], harness := (true, "d892a91c68e7df7c479299afd2b9464e83b301b00f34ff53b64e8c206e19d93e"), looks := true }, kinds := [], alts := [], laidByText := true, laidKinds := [.data, .data, .data, .sentinel, .sentinel], laidTests := true, laidLooks := .later }
def WordReadsUptoCardSaid : Prop := Claim7.holds Tryd.pinned (.plain (OpenSpec.upto wordReadsSpec)) wordReadsUptoCard

/-- THE SECOND FORM's CARD OF 'lapidarylaw01.WordUnlike'. -/
def wordUnlikeUptoCard : Claim7 := { stood := { row := wordUnlikeUptoRow, standIns := [], harness := (true, "d892a91c68e7df7c479299afd2b9464e83b301b00f34ff53b64e8c206e19d93e"), looks := true }, kinds := [], alts := [], laidByText := true, laidKinds := [.data, .data, .data, .sentinel, .sentinel], laidTests := true, laidLooks := .later }
def WordUnlikeUptoCardSaid : Prop := Claim7.holds Tryd.pinned (.plain (OpenSpec.upto wordUnlikeSpec)) wordUnlikeUptoCard

/-- THE SECOND FORM's CARD OF 'lapidarylaw01.WordSeals'. -/
def wordSealsUptoCard : Claim7 := { stood := { row := wordSealsUptoRow, standIns := [], harness := (true, "d892a91c68e7df7c479299afd2b9464e83b301b00f34ff53b64e8c206e19d93e"), looks := true }, kinds := [], alts := [], laidByText := true, laidKinds := [.data, .data, .data, .sentinel, .sentinel], laidTests := true, laidLooks := .later }
def WordSealsUptoCardSaid : Prop := Claim7.holds Tryd.pinned (.plain (OpenSpec.upto wordSealsSpec)) wordSealsUptoCard
end Rows
end Go.Proofs.YtflomobdaagekaaDoor
