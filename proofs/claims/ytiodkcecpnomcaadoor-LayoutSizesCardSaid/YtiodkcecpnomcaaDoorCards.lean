/-
  DERIVED. GIVEN WITH THE SEED: THE CARDS: each row of YtiodkcecpnomcaaDoorRows.lean that lists a variable, with what it lists TIED to the program's text (the seventh form; the later family's looks); each row that meets fmt, with fmt's text TOLD by the authors' own Lean function (tested against real Go, not proved from fmt's source: count such statements apart). THE CARD IS WHAT COUNTS. Prove the row's statement (the work); the ties are given (YtiodkcecpnomcaaDoorTie.lean); close each card by the builder's one call (the guide's Derived/Test/ToyasCard.lean, 'card_holds'). Laid BY PROGRAM, IN A SANDBOX (cutbox-door.mjs). By AI agents, Wed Nov 11 2026. No macro, syntax, notation, axiom, sorry.
-/
import Derived.Test.YtiodkcecpnomcaaDoorRows
import GoSem.ClaimSeven
namespace Go.Proofs.YtiodkcecpnomcaaDoor
namespace Rows

/-- THE TIED CARD OF 'lapidarylaw06.LayoutPlaces'. -/
def layoutPlacesCard : Claim7 := { stood := { row := layoutPlacesRow, standIns := [], harness := (true, "f4739d3c0226c3f3aef979a9b008da3d2468fdfc5b358f58957d04679b7e7195"), looks := false }, kinds := [], alts := [], laidByText := true, laidKinds := [.data, .data, .data], laidTests := true, laidLooks := .later }
def LayoutPlacesCardSaid : Prop := Claim7.holds Tryd.pinned (.plain (OpenSpec.ofChange layoutPlacesSpec)) layoutPlacesCard

/-- THE TIED CARD OF 'lapidarylaw06.LayoutParts'. -/
def layoutPartsCard : Claim7 := { stood := { row := layoutPartsRow, standIns := [], harness := (true, "f4739d3c0226c3f3aef979a9b008da3d2468fdfc5b358f58957d04679b7e7195"), looks := false }, kinds := [], alts := [], laidByText := true, laidKinds := [.data, .data, .data], laidTests := true, laidLooks := .later }
def LayoutPartsCardSaid : Prop := Claim7.holds Tryd.pinned (.plain (OpenSpec.ofChange layoutPartsSpec)) layoutPartsCard

/-- THE TIED CARD OF 'lapidarylaw06.LayoutAt'. -/
def layoutAtCard : Claim7 := { stood := { row := layoutAtRow, standIns := [], harness := (true, "f4739d3c0226c3f3aef979a9b008da3d2468fdfc5b358f58957d04679b7e7195"), looks := false }, kinds := [], alts := [], laidByText := true, laidKinds := [.data, .data, .data], laidTests := true, laidLooks := .later }
def LayoutAtCardSaid : Prop := Claim7.holds Tryd.pinned (.plain (OpenSpec.ofChange layoutAtSpec)) layoutAtCard

/-- THE TIED CARD OF 'lapidarylaw06.LayoutApart'. -/
def layoutApartCard : Claim7 := { stood := { row := layoutApartRow, standIns := [], harness := (true, "f4739d3c0226c3f3aef979a9b008da3d2468fdfc5b358f58957d04679b7e7195"), looks := false }, kinds := [], alts := [], laidByText := true, laidKinds := [.data, .data, .data], laidTests := true, laidLooks := .later }
def LayoutApartCardSaid : Prop := Claim7.holds Tryd.pinned (.plain (OpenSpec.ofChange layoutApartSpec)) layoutApartCard

/-- THE TIED CARD OF 'lapidarylaw06.LayoutSizes'. -/
def layoutSizesCard : Claim7 := { stood := { row := layoutSizesRow, standIns := [], harness := (true, "f4739d3c0226c3f3aef979a9b008da3d2468fdfc5b358f58957d04679b7e7195"), looks := false }, kinds := [], alts := [], laidByText := true, laidKinds := [.data, .data, .data], laidTests := true, laidLooks := .later }
def LayoutSizesCardSaid : Prop := Claim7.holds Tryd.pinned (.plain (OpenSpec.ofChange layoutSizesSpec)) layoutSizesCard

/-- THE SECOND FORM's CARD OF 'lapidarylaw06.LayoutPlaces'. -/
def layoutPlacesUptoCard : Claim7 := { stood := { row := layoutPlacesUptoRow, standIns := [], harness := (true, "f4739d3c0226c3f3aef979a9b008da3d2468fdfc5b358f58957d04679b7e7195"), looks := false }, kinds := [], alts := [], laidByText := true, laidKinds := [.data, .data, .data], laidTests := true, laidLooks := .later }
def LayoutPlacesUptoCardSaid : Prop := Claim7.holds Tryd.pinned (.plain (OpenSpec.upto layoutPlacesSpec)) layoutPlacesUptoCard

/-- THE SECOND FORM's CARD OF 'lapidarylaw06.LayoutParts'. -/
def layoutPartsUptoCard : Claim7 := { stood := { row := layoutPartsUptoRow, standIns := [], harness := (true, "f4739d3c0226c3f3aef979a9b008da3d2468fdfc5b358f58957d04679b7e7195"), looks := false }, kinds := [], alts := [], laidByText := true, laidKinds := [.data, .data, .data], laidTests := true, laidLooks := .later }
def LayoutPartsUptoCardSaid : Prop := Claim7.holds Tryd.pinned (.plain (OpenSpec.upto layoutPartsSpec)) layoutPartsUptoCard

/-- THE SECOND FORM's CARD OF 'lapidarylaw06.LayoutAt'. -/
def layoutAtUptoCard : Claim7 := { stood := { row := layoutAtUptoRow, standIns := [], harness := (true, "f4739d3c0226c3f3aef979a9b008da3d2468fdfc5b358f58957d04679b7e7195"), looks := false }, kinds := [], alts := [], laidByText := true, laidKinds := [.data, .data, .data], laidTests := true, laidLooks := .later }
def LayoutAtUptoCardSaid : Prop := Claim7.holds Tryd.pinned (.plain (OpenSpec.upto layoutAtSpec)) layoutAtUptoCard

/-- THE SECOND FORM's CARD OF 'lapidarylaw06.LayoutApart'. -/
def layoutApartUptoCard : Claim7 := { stood := { row := layoutApartUptoRow, standIns := [], harness := (true, "f4739d3c0226c3f3aef979a9b008da3d2468fdfc5b358f58957d04679b7e7195"), looks := false }, kinds := [], alts := [], laidByText := true, laidKinds := [.data, .data, .data], laidTests := true, laidLooks := .later }
def LayoutApartUptoCardSaid : Prop := Claim7.holds Tryd.pinned (.plain (OpenSpec.upto layoutApartSpec)) layoutApartUptoCard

/-- THE SECOND FORM's CARD OF 'lapidarylaw06.LayoutSizes'. -/
def layoutSizesUptoCard : Claim7 := { stood := { row := layoutSizesUptoRow, standIns := [], harness := (true, "f4739d3c0226c3f3aef979a9b008da3d2468fdfc5b358f58957d04679b7e7195"), looks := false }, kinds := [], alts := [], laidByText := true, laidKinds := [.data, .data, .data], laidTests := true, laidLooks := .later }
def LayoutSizesUptoCardSaid : Prop := Claim7.holds Tryd.pinned (.plain (OpenSpec.upto layoutSizesSpec)) layoutSizesUptoCard
end Rows
end Go.Proofs.YtiodkcecpnomcaaDoor
