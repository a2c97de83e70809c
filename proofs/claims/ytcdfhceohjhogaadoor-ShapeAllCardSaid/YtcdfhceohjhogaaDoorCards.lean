/-
  DERIVED. GIVEN WITH THE SEED: THE CARDS: each row of YtcdfhceohjhogaaDoorRows.lean that lists a variable, with what it lists TIED to the program's text (the seventh form; the later family's looks); each row that meets fmt, with fmt's text TOLD by the authors' own Lean function (tested against real Go, not proved from fmt's source: count such statements apart). THE CARD IS WHAT COUNTS. Prove the row's statement (the work); the ties are given (YtcdfhceohjhogaaDoorTie.lean); close each card by the builder's one call (the guide's Derived/Test/ToyasCard.lean, 'card_holds'). Laid BY PROGRAM, IN A SANDBOX (cutbox-door.mjs). By AI agents, Wed Nov 11 2026. No macro, syntax, notation, axiom, sorry.
-/
import Derived.Test.YtcdfhceohjhogaaDoorRows
import GoSem.ClaimSeven
namespace Go.Proofs.YtcdfhceohjhogaaDoor
namespace Rows

/-- THE TIED CARD OF 'lapidarylaw04.HeadMake'. -/
def headMakeCard : Claim7 := { stood := { row := headMakeRow, standIns := [], harness := (true, "dd8d8e033076fa61dde4f847201b8c853a79638f11cc258e92e3fcd19aaca1c6"), looks := false }, kinds := [], alts := [], laidByText := true, laidKinds := [.data, .data, .data], laidTests := true, laidLooks := .later }
def HeadMakeCardSaid : Prop := Claim7.holds Tryd.pinned (.plain (OpenSpec.ofChange headMakeSpec)) headMakeCard

/-- THE TIED CARD OF 'lapidarylaw04.HeadOf'. -/
def headOfCard : Claim7 := { stood := { row := headOfRow, standIns := [], harness := (true, "dd8d8e033076fa61dde4f847201b8c853a79638f11cc258e92e3fcd19aaca1c6"), looks := false }, kinds := [], alts := [], laidByText := true, laidKinds := [.data, .data, .data], laidTests := true, laidLooks := .later }
def HeadOfCardSaid : Prop := Claim7.holds Tryd.pinned (.plain (OpenSpec.ofChange headOfSpec)) headOfCard

/-- THE TIED CARD OF 'lapidarylaw04.HeadSizes'. -/
def headSizesCard : Claim7 := { stood := { row := headSizesRow, standIns := [], harness := (true, "dd8d8e033076fa61dde4f847201b8c853a79638f11cc258e92e3fcd19aaca1c6"), looks := false }, kinds := [], alts := [], laidByText := true, laidKinds := [.data, .data, .data], laidTests := true, laidLooks := .later }
def HeadSizesCardSaid : Prop := Claim7.holds Tryd.pinned (.plain (OpenSpec.ofChange headSizesSpec)) headSizesCard

/-- THE TIED CARD OF 'lapidarylaw04.HeadTexts'. -/
def headTextsCard : Claim7 := { stood := { row := headTextsRow, standIns := [], harness := (true, "dd8d8e033076fa61dde4f847201b8c853a79638f11cc258e92e3fcd19aaca1c6"), looks := false }, kinds := [], alts := [], laidByText := true, laidKinds := [.data, .data, .data], laidTests := true, laidLooks := .later }
def HeadTextsCardSaid : Prop := Claim7.holds Tryd.pinned (.plain (OpenSpec.ofChange headTextsSpec)) headTextsCard

/-- THE TIED CARD OF 'lapidarylaw04.HeadUnlike'. -/
def headUnlikeCard : Claim7 := { stood := { row := headUnlikeRow, standIns := [], harness := (true, "dd8d8e033076fa61dde4f847201b8c853a79638f11cc258e92e3fcd19aaca1c6"), looks := false }, kinds := [], alts := [], laidByText := true, laidKinds := [.data, .data, .data], laidTests := true, laidLooks := .later }
def HeadUnlikeCardSaid : Prop := Claim7.holds Tryd.pinned (.plain (OpenSpec.ofChange headUnlikeSpec)) headUnlikeCard

/-- THE TIED CARD OF 'lapidarylaw04.HeadMarks'. -/
def headMarksCard : Claim7 := { stood := { row := headMarksRow, standIns := [], harness := (true, "dd8d8e033076fa61dde4f847201b8c853a79638f11cc258e92e3fcd19aaca1c6"), looks := false }, kinds := [], alts := [], laidByText := true, laidKinds := [.data, .data, .data], laidTests := true, laidLooks := .later }
def HeadMarksCardSaid : Prop := Claim7.holds Tryd.pinned (.plain (OpenSpec.ofChange headMarksSpec)) headMarksCard

/-- THE TIED CARD OF 'lapidarylaw03.ShapeKinds'. -/
def shapeKindsCard : Claim7 := { stood := { row := shapeKindsRow, standIns := [], harness := (true, "dd8d8e033076fa61dde4f847201b8c853a79638f11cc258e92e3fcd19aaca1c6"), looks := false }, kinds := [], alts := [], laidByText := true, laidKinds := [.data, .pinned], laidTests := true, laidLooks := .later }
def ShapeKindsCardSaid : Prop := Claim7.holds Tryd.pinned (.plain (OpenSpec.ofChange shapeKindsSpec)) shapeKindsCard

/-- THE TIED CARD OF 'lapidarylaw03.ShapeAll'. -/
def shapeAllCard : Claim7 := { stood := { row := shapeAllRow, standIns := [], harness := (true, "dd8d8e033076fa61dde4f847201b8c853a79638f11cc258e92e3fcd19aaca1c6"), looks := false }, kinds := [], alts := [], laidByText := true, laidKinds := [.data, .pinned], laidTests := true, laidLooks := .later }
def ShapeAllCardSaid : Prop := Claim7.holds Tryd.pinned (.plain (OpenSpec.ofChange shapeAllSpec)) shapeAllCard

/-- THE TIED CARD OF 'lapidarylaw03.ShapeTexts'. -/
def shapeTextsCard : Claim7 := { stood := { row := shapeTextsRow, standIns := [], harness := (true, "dd8d8e033076fa61dde4f847201b8c853a79638f11cc258e92e3fcd19aaca1c6"), looks := false }, kinds := [], alts := [], laidByText := true, laidKinds := [.data, .pinned], laidTests := true, laidLooks := .later }
def ShapeTextsCardSaid : Prop := Claim7.holds Tryd.pinned (.plain (OpenSpec.ofChange shapeTextsSpec)) shapeTextsCard

/-- THE TIED CARD OF 'lapidarylaw03.ShapeReads'. -/
def shapeReadsCard : Claim7 := { stood := { row := shapeReadsRow, standIns := [], harness := (true, "dd8d8e033076fa61dde4f847201b8c853a79638f11cc258e92e3fcd19aaca1c6"), looks := false }, kinds := [], alts := [], laidByText := true, laidKinds := [.data, .pinned], laidTests := true, laidLooks := .later }
def ShapeReadsCardSaid : Prop := Claim7.holds Tryd.pinned (.plain (OpenSpec.ofChange shapeReadsSpec)) shapeReadsCard

/-- THE TIED CARD OF 'lapidarylaw03.ShapeSizes'. -/
def shapeSizesCard : Claim7 := { stood := { row := shapeSizesRow, standIns := [], harness := (true, "dd8d8e033076fa61dde4f847201b8c853a79638f11cc258e92e3fcd19aaca1c6"), looks := false }, kinds := [], alts := [], laidByText := true, laidKinds := [.data, .pinned], laidTests := true, laidLooks := .later }
def ShapeSizesCardSaid : Prop := Claim7.holds Tryd.pinned (.plain (OpenSpec.ofChange shapeSizesSpec)) shapeSizesCard

/-- THE TIED CARD OF 'lapidarylaw03.ShapeMost'. -/
def shapeMostCard : Claim7 := { stood := { row := shapeMostRow, standIns := [], harness := (true, "dd8d8e033076fa61dde4f847201b8c853a79638f11cc258e92e3fcd19aaca1c6"), looks := false }, kinds := [], alts := [], laidByText := true, laidKinds := [.data, .pinned], laidTests := true, laidLooks := .later }
def ShapeMostCardSaid : Prop := Claim7.holds Tryd.pinned (.plain (OpenSpec.ofChange shapeMostSpec)) shapeMostCard

/-- THE SECOND FORM's CARD OF 'lapidarylaw04.HeadMake'. -/
def headMakeUptoCard : Claim7 := { stood := { row := headMakeUptoRow, standIns := [], harness := (true, "dd8d8e033076fa61dde4f847201b8c853a79638f11cc258e92e3fcd19aaca1c6"), looks := false }, kinds := [], alts := [], laidByText := true, laidKinds := [.data, .data, .data], laidTests := true, laidLooks := .later }
def HeadMakeUptoCardSaid : Prop := Claim7.holds Tryd.pinned (.plain (OpenSpec.upto headMakeSpec)) headMakeUptoCard

/-- THE SECOND FORM's CARD OF 'lapidarylaw04.HeadOf'. -/
def headOfUptoCard : Claim7 := { stood := { row := headOfUptoRow, standIns := [], harness := (true, "dd8d8e033076fa61dde4f847201b8c853a79638f11cc258e92e3fcd19aaca1c6"), looks := false }, kinds := [], alts := [], laidByText := true, laidKinds := [.data, .data, .data], laidTests := true, laidLooks := .later }
def HeadOfUptoCardSaid : Prop := Claim7.holds Tryd.pinned (.plain (OpenSpec.upto headOfSpec)) headOfUptoCard

/-- THE SECOND FORM's CARD OF 'lapidarylaw04.HeadSizes'. -/
def headSizesUptoCard : Claim7 := { stood := { row := headSizesUptoRow, standIns := [], harness := (true, "dd8d8e033076fa61dde4f847201b8c853a79638f11cc258e92e3fcd19aaca1c6"), looks := false }, kinds := [], alts := [], laidByText := true, laidKinds := [.data, .data, .data], laidTests := true, laidLooks := .later }
def HeadSizesUptoCardSaid : Prop := Claim7.holds Tryd.pinned (.plain (OpenSpec.upto headSizesSpec)) headSizesUptoCard

/-- THE SECOND FORM's CARD OF 'lapidarylaw04.HeadTexts'. -/
def headTextsUptoCard : Claim7 := { stood := { row := headTextsUptoRow, standIns := [], harness := (true, "dd8d8e033076fa61dde4f847201b8c853a79638f11cc258e92e3fcd19aaca1c6"), looks := false }, kinds := [], alts := [], laidByText := true, laidKinds := [.data, .data, .data], laidTests := true, laidLooks := .later }
def HeadTextsUptoCardSaid : Prop := Claim7.holds Tryd.pinned (.plain (OpenSpec.upto headTextsSpec)) headTextsUptoCard

/-- THE SECOND FORM's CARD OF 'lapidarylaw04.HeadUnlike'. -/
def headUnlikeUptoCard : Claim7 := { stood := { row := headUnlikeUptoRow, standIns := [], harness := (true, "dd8d8e033076fa61dde4f847201b8c853a79638f11cc258e92e3fcd19aaca1c6"), looks := false }, kinds := [], alts := [], laidByText := true, laidKinds := [.data, .data, .data], laidTests := true, laidLooks := .later }
def HeadUnlikeUptoCardSaid : Prop := Claim7.holds Tryd.pinned (.plain (OpenSpec.upto headUnlikeSpec)) headUnlikeUptoCard

/-- THE SECOND FORM's CARD OF 'lapidarylaw04.HeadMarks'. -/
def headMarksUptoCard : Claim7 := { stood := { row := headMarksUptoRow, standIns := [], harness := (true, "dd8d8e033076fa61dde4f847201b8c853a79638f11cc258e92e3fcd19aaca1c6"), looks := false }, kinds := [], alts := [], laidByText := true, laidKinds := [.data, .data, .data], laidTests := true, laidLooks := .later }
def HeadMarksUptoCardSaid : Prop := Claim7.holds Tryd.pinned (.plain (OpenSpec.upto headMarksSpec)) headMarksUptoCard

/-- THE SECOND FORM's CARD OF 'lapidarylaw03.ShapeKinds'. -/
def shapeKindsUptoCard : Claim7 := { stood := { row := shapeKindsUptoRow, standIns := [], harness := (true, "dd8d8e033076fa61dde4f847201b8c853a79638f11cc258e92e3fcd19aaca1c6"), looks := false }, kinds := [], alts := [], laidByText := true, laidKinds := [.data, .pinned], laidTests := true, laidLooks := .later }
def ShapeKindsUptoCardSaid : Prop := Claim7.holds Tryd.pinned (.plain (OpenSpec.upto shapeKindsSpec)) shapeKindsUptoCard

/-- THE SECOND FORM's CARD OF 'lapidarylaw03.ShapeAll'. -/
def shapeAllUptoCard : Claim7 := { stood := { row := shapeAllUptoRow, standIns := [], harness := (true, "dd8d8e033076fa61dde4f847201b8c853a79638f11cc258e92e3fcd19aaca1c6"), looks := false }, kinds := [], alts := [], laidByText := true, laidKinds := [.data, .pinned], laidTests := true, laidLooks := .later }
def ShapeAllUptoCardSaid : Prop := Claim7.holds Tryd.pinned (.plain (OpenSpec.upto shapeAllSpec)) shapeAllUptoCard

/-- THE SECOND FORM's CARD OF 'lapidarylaw03.ShapeTexts'. -/
def shapeTextsUptoCard : Claim7 := { stood := { row := shapeTextsUptoRow, standIns := [], harness := (true, "dd8d8e033076fa61dde4f847201b8c853a79638f11cc258e92e3fcd19aaca1c6"), looks := false }, kinds := [], alts := [], laidByText := true, laidKinds := [.data, .pinned], laidTests := true, laidLooks := .later }
def ShapeTextsUptoCardSaid : Prop := Claim7.holds Tryd.pinned (.plain (OpenSpec.upto shapeTextsSpec)) shapeTextsUptoCard

/-- THE SECOND FORM's CARD OF 'lapidarylaw03.ShapeReads'. -/
def shapeReadsUptoCard : Claim7 := { stood := { row := shapeReadsUptoRow, standIns := [], harness := (true, "dd8d8e033076fa61dde4f847201b8c853a79638f11cc258e92e3fcd19aaca1c6"), looks := false }, kinds := [], alts := [], laidByText := true, laidKinds := [.data, .pinned], laidTests := true, laidLooks := .later }
def ShapeReadsUptoCardSaid : Prop := Claim7.holds Tryd.pinned (.plain (OpenSpec.upto shapeReadsSpec)) shapeReadsUptoCard

/-- THE SECOND FORM's CARD OF 'lapidarylaw03.ShapeSizes'. -/
def shapeSizesUptoCard : Claim7 := { stood := { row := shapeSizesUptoRow, standIns := [], harness := (true, "dd8d8e033076fa61dde4f847201b8c853a79638f11cc258e92e3fcd19aaca1c6"), looks := false }, kinds := [], alts := [], laidByText := true, laidKinds := [.data, .pinned], laidTests := true, laidLooks := .later }
def ShapeSizesUptoCardSaid : Prop := Claim7.holds Tryd.pinned (.plain (OpenSpec.upto shapeSizesSpec)) shapeSizesUptoCard

/-- THE SECOND FORM's CARD OF 'lapidarylaw03.ShapeMost'. -/
def shapeMostUptoCard : Claim7 := { stood := { row := shapeMostUptoRow, standIns := [], harness := (true, "dd8d8e033076fa61dde4f847201b8c853a79638f11cc258e92e3fcd19aaca1c6"), looks := false }, kinds := [], alts := [], laidByText := true, laidKinds := [.data, .pinned], laidTests := true, laidLooks := .later }
def ShapeMostUptoCardSaid : Prop := Claim7.holds Tryd.pinned (.plain (OpenSpec.upto shapeMostSpec)) shapeMostUptoCard
end Rows
end Go.Proofs.YtcdfhceohjhogaaDoor
